import PyProof.Rows.All
import HandS.ForMost
import HandS.ForExc
import HandS.TupAny
import HandS.TupSets
import HandS.Deep
import HandS.Flow
import HandS.IsInst
import HandS.CallSlots
import HandS.Zip
import HandS.Wide
import HandS.Lambda
import HandS.ExcValue
import HandS.ExcInit
import HandS.ExcField
import HandS.ExcIs
import HandS.TryMany
import HandS.RaiseMore
import HandS.Small
import HandS.Conv
import HandS.TupMul
import HandS.SortInts
import HandS.Strs
import KE.KExcIs
import KE.KDictKeyed
import KE.KeyNested
import HandS.TupLen
import KE.GoesEnum
import HandS.SortRule
import HandS.Style
import KE.KDictPairs
import PyProof.ReprLen
import PyProof.Rows.StrJoinMade
import KE.RegKIsAll
import KE.RegKTryMore
import PySem.Challenge.RW_waitbolts_k54_locks_within_one_another
set_option Elab.async false
set_option linter.all false
set_option maxRecDepth 100000
set_option maxHeartbeats 4000000
namespace WB
open PySem L2

/-- plain values: `lst` a list that nobody changes any more, `own` one that its holder alone has, `bor` one lent by a slot, `scr` the script, `ref` a thing of the store -/
inductive D where
  | non
  | bl (b : Bool)
  | int (i : Int)
  | str (x : Str)
  | tup (xs : List D)
  | lst (xs : List D)
  | own (xs : List D)
  | bor (xs : List D)
  | scr (xs : List D)
  | ref (n : Nat)
  /-- a caught error: its class; with one field -/
  | exn0 (x : Str)
  | exn1 (x f : Str) (d : D)
  /-- a dict of ints that nobody changes -/
  | dct (kvs : List (Int × Int))
  /-- a dict with tuples as keys: one that nobody changes any more, one that its holder alone has -/
  | kd (ks vs : List D)
  | okd (ks vs : List D)
  /-- a lambda that was handed in -/
  | lam

/-- things that change -/
inductive MO where
  | lst (xs : List D)
  | dk (kvs : List (Key × D))
  | ins (c : Nat) (fs : List (Str × D))

abbrev Store := List MO
structure Exn where
  cls : Str
  fld : Option (Str × D)
def Exn.val (x : Exn) : D := match x.fld with
  | none => .exn0 x.cls
  | some (f, d) => .exn1 x.cls f d
inductive R (α : Type) where
  | ok (a : α) (S : Store)
  | exc (x : Exn) (S : Store)
  | bad
abbrev M (α : Type) := Store → R α
namespace M
def ret {α : Type} (a : α) : M α := fun S => .ok a S
def bnd {α β : Type} (m : M α) (f : α → M β) : M β := fun S => match m S with
  | .ok a S' => f a S'
  | .exc x S' => .exc x S'
  | .bad => .bad
def bad {α : Type} : M α := fun _ => .bad
def ofO {α : Type} : Option α → M α
  | some a => ret a
  | none => bad
/-- no error leaves -/
def calm {α : Type} (m : M α) : M α := fun S => match m S with
  | .ok a S' => .ok a S'
  | _ => .bad
theorem bnd_ok {α β : Type} {m : M α} {f : α → M β} {S S' : Store} {a : α} (h : m S = .ok a S') : bnd m f S = f a S' := by unfold bnd; rw [h]
theorem bnd_exc {α β : Type} {m : M α} {f : α → M β} {S S' : Store} {x : Exn} (h : m S = .exc x S') : bnd m f S = .exc x S' := by unfold bnd; rw [h]
theorem bnd_bad {α β : Type} {m : M α} {f : α → M β} {S : Store} (h : m S = .bad) : bnd m f S = .bad := by unfold bnd; rw [h]
end M

namespace D
def list? : D → Option (List D)
  | .lst xs | .own xs | .bor xs => some xs
  | _ => none
def seq? : D → Option (List D)
  | .tup xs | .lst xs | .own xs | .bor xs => some xs
  | _ => none
/-- as it is stored or handed on -/
def hand : D → Option D
  | .own xs => some (.lst xs)
  | .bor _ => none
  | .okd _ _ => none
  | .lam => none
  | d => some d
/-- what a slot may take -/
def keep : D → Option D
  | .bor _ => none
  | d => some d
/-- its holder alone has it -/
def isOw : D → Bool
  | .own _ => true
  | .okd _ _ => true
  | _ => false
mutual
/-- as a key (no text in it) -/
def nk : D → Option NestedKey
  | .non => some .none
  | .int i => some (.num i)
  | .bl b => some (.num (if b = true then 1 else 0))
  | .tup xs => (nks xs).map .tup
  | _ => none
def nks : List D → Option (List NestedKey)
  | [] => some []
  | d :: r => match nk d, nks r with
    | some e, some s => some (e :: s)
    | _, _ => none
end
/-- a key of a dict: a tuple -/
def key : D → Option NestedKey
  | .tup xs => match nk (.tup xs) with
    | some k => if k.depth ≤ 8 then some k else none
    | none => none
  | _ => none
def isNon : D → Bool
  | .non => true
  | _ => false
def int? : D → Option Int
  | .int i => some i
  | _ => none
def bl? : D → Option Bool
  | .bl b => some b
  | _ => none
mutual
/-- data without the store's things -/
def py : D → Option PyData
  | .non => some .none
  | .bl b => some (.bool b)
  | .int i => some (.int i)
  | .str x => some (.str x)
  | .tup xs => (pys xs).map .tuple
  | .lst xs => (pys xs).map .list
  | .own xs => (pys xs).map .list
  | .bor xs => (pys xs).map .list
  | .scr xs => (pys xs).map .list
  | .ref _ => none
  | .exn0 _ => none
  | .exn1 _ _ _ => none
  | .dct _ => none
  | .kd _ _ => none
  | .okd _ _ => none
  | .lam => none
def pys : List D → Option (List PyData)
  | [] => some []
  | d :: r => match py d, pys r with
    | some e, some s => some (e :: s)
    | _, _ => none
end
mutual
/-- data with dicts -/
def pyR : D → Option PyData
  | .non => some .none
  | .bl b => some (.bool b)
  | .int i => some (.int i)
  | .str x => some (.str x)
  | .tup xs => (pyRs xs).map .tuple
  | .dct kvs => some (.dict (kvs.map fun p => (.int p.1, .int p.2)))
  | .lst xs => (pyRs xs).map .list
  | .own xs => (pyRs xs).map .list
  | .bor xs => (pyRs xs).map .list
  | _ => none
def pyRs : List D → Option (List PyData)
  | [] => some []
  | d :: r => match pyR d, pyRs r with
    | some e, some s => some (e :: s)
    | _, _ => none
end
mutual
/-- the store's things in it are below n -/
def under (n : Nat) : D → Bool
  | .tup xs | .lst xs | .own xs | .bor xs | .scr xs => unders n xs
  | .ref k => decide (k < n)
  | _ => true
def unders (n : Nat) : List D → Bool
  | [] => true
  | d :: r => under n d && unders n r
end
def ints? : List D → Option (List Int)
  | [] => some []
  | .int i :: r => (ints? r).map (i :: ·)
  | _ :: _ => none
def bls? : List D → Option (List Bool)
  | [] => some []
  | .bl b :: r => (bls? r).map (b :: ·)
  | _ :: _ => none
def words? : List D → Option (List (List Int))
  | [] => some []
  | .tup xs :: r => match ints? xs, words? r with
    | some w, some ws => some (w :: ws)
    | _, _ => none
  | _ :: _ => none
end D

inductive BOp where | add | sub | mul | fdiv | mod | pow
inductive COp where | eq | ne | lt | le | gt | ge | isN | notN | mem | nmem
inductive Bi where | len | all | sum | tuple | list | abs | int | repr | sorted | sortedSet | lenSet | str | min | max
inductive Ty where | int | bool | str | tuple | list | dict | tupleList
def slIx (n d : Nat) (o : Option Int) : Nat := HT.sIx n d o
def cut {α : Type} (xs : List α) (lo hi : Option Int) : List α := (xs.drop (HT.sIx xs.length 0 lo)).take (HT.sIx xs.length xs.length hi - HT.sIx xs.length 0 lo)
def small (i : Int) : Bool := decide (-(2 ^ 64) < i ∧ i < 2 ^ 64)
def binD : BOp → D → D → Option D
  | .add, .int i, .int j => some (.int (i + j))
  | .add, .str x, .str y => if x.length + y.length ≤ sizeLine then some (.str (x ++ y)) else none
  | .add, .tup xs, .tup ys => if xs.length + ys.length ≤ sizeLine then some (.tup (xs ++ ys)) else none
  | .add, a, b => match a.list?, b.list? with
    | some xs, some ys => if xs.length + ys.length ≤ sizeLine then some (.own (xs ++ ys)) else none
    | _, _ => none
  | .sub, .int i, .int j => some (.int (i - j))
  | .mul, .int i, .int j => if small i || small j then some (.int (i * j)) else none
  | .mul, .tup xs, .int k => if 1 ≤ xs.length ∧ 2 ≤ k ∧ k ≤ 1000 ∧ xs.length ≤ 1000 then some (.tup (List.replicate k.toNat xs).flatten) else none
  | .mul, a, .int k => match a.list? with
    | some xs => if -(2 ^ 63) ≤ k ∧ k < 2 ^ 63 ∧ xs.length * k.toNat ≤ sizeLine then some (.own (List.replicate k.toNat xs).flatten) else none
    | none => none
  | .fdiv, .int i, .int j => if 0 < j ∧ j < 1073741824 then some (.int (i / j)) else none
  | .mod, .int i, .int j => if 0 < j then some (.int (i % j)) else none
  | .pow, .int i, .int j => if 0 ≤ j ∧ j ≤ 1000000 ∧ i.natAbs < 2 ^ 64 then some (.int (i ^ j.toNat)) else none
  | _, _, _ => none
def eqD : D → D → Option Bool
  | .str x, .str y => some (decide (x = y))
  | a, b => match a.py, b.py with
    | some x, some y => if SeqAt.shaped x && SeqAt.shaped y then some (PyData.eqv x y) else none
    | _, _ => none
/-- what stands at a key -/
def kdAt (k : NestedKey) : List D → List D → Option D
  | x :: ks, v :: vs => if x.key = some k then some v else kdAt k ks vs
  | _, _ => none
/-- a key's value put in -/
def kdPut (x : D) (k : NestedKey) (v : D) : List D → List D → List D × List D
  | y :: ks, u :: vs => if y.key = some k then (y :: ks, v :: vs) else ((y :: (kdPut x k v ks vs).1), (u :: (kdPut x k v ks vs).2))
  | _, _ => ([x], [v])
def memL (a b : D) : Option Bool := match a.py, b.py with
  | some x, some (.list ys) => if SeqAt.shaped x && SeqAt.shaped (.list ys) then some (ys.any fun y => PyData.eqv y x) else none
  | some x, some (.tuple ys) => if SeqAt.shaped x && SeqAt.shaped (.tuple ys) then some (ys.any fun y => PyData.eqv y x) else none
  | _, _ => none
def memD (a b : D) : Option Bool := match b with
  | .kd ks vs => match a.key with
    | some k => some (kdAt k ks vs).isSome
    | none => none
  | b => memL a b
def cmpD : COp → D → D → Option Bool
  | .eq, a, b => eqD a b
  | .ne, a, b => (eqD a b).map (!·)
  | .lt, .int i, .int j => some (decide (i < j))
  | .le, .int i, .int j => some (decide (i ≤ j))
  | .gt, .int i, .int j => some (decide (j < i))
  | .ge, .int i, .int j => some (decide (j ≤ i))
  | .lt, .tup xs, .tup ys => match D.ints? xs, D.ints? ys with
    | some a, some b => some (HT.lexLt a b)
    | _, _ => none
  | .isN, a, .non => some a.isNon
  | .notN, a, .non => some (!a.isNon)
  | .mem, a, b => memD a b
  | .nmem, a, b => (memD a b).map (!·)
  | _, _, _ => none
def truD : D → Option Bool
  | .non => some false
  | .bl b => some b
  | .int i => some (i != 0)
  | .tup xs | .lst xs | .own xs | .bor xs => some (!xs.isEmpty)
  | _ => none
def subL (a i : D) : Option D := match i with
  | .int k => match a with
    | .tup xs | .lst xs | .own xs | .bor xs => L2.atI xs k
    | _ => none
  | _ => none
def subD (a i : D) : Option D := match a with
  | .kd ks vs => match i.key with
    | some k => kdAt k ks vs
    | none => none
  | a => subL a i
def slD (a : D) (lo hi : Option Int) : Option D := match a with
  | .tup xs => some (.tup (cut xs lo hi))
  | .lst xs | .own xs | .bor xs | .scr xs => some (.own (cut xs lo hi))
  | _ => none
def isiD : Ty → D → Option Bool
  | _, .ref _ | _, .scr _ | _, .exn0 _ | _, .exn1 _ _ _ | _, .kd _ _ | _, .okd _ _ | _, .lam => none
  | .int, .int _ | .int, .bl _ | .bool, .bl _ | .str, .str _ | .tuple, .tup _ | .list, .lst _ | .list, .own _ | .list, .bor _ | .tupleList, .tup _ | .tupleList, .lst _ | .tupleList, .own _ | .tupleList, .bor _ | .dict, .dct _ => some true
  | _, _ => some false
/-- words of one length, each unlike the others, in order -/
def wordLt (a b : List Int) : Bool := HT.lexLt a b
def wordIns (w : List Int) : List (List Int) → List (List Int)
  | [] => [w]
  | v :: r => if w = v then v :: r else if wordLt w v then w :: v :: r else v :: wordIns w r
def wordSort (ws : List (List Int)) : List (List Int) := ws.foldr wordIns []
def wordOk (d : Nat) (w : List Int) : Bool := w.length == d && w.all fun i => decide (0 ≤ i ∧ i < 4)
def wordTup (w : List Int) : D := .tup (w.map D.int)
def sortedSetD (xs : List D) : Option (List D) := match D.words? xs with
  | some ws => if ws.length < 64 && (match ws with | [] => true | w :: r => r.all (wordOk w.length) && wordOk w.length w) then some ((wordSort ws).map wordTup) else none
  | none => none

section
variable {α : Type}
def insL (lt : α → α → Bool) (x : α) : List α → List α
  | [] => [x]
  | y :: r => if lt y x then y :: insL lt x r else x :: y :: r
def sortL (lt : α → α → Bool) (l : List α) : List α := l.foldr (insL lt) []
end
def ltK {α : Type} (p q : List Int × α) : Bool := HT.lexLt p.1 q.1
def leadN : List D → Nat
  | .int _ :: r => leadN r + 1
  | _ => 0
def keyN (n : Nat) : D → Option (List Int)
  | .tup ds => if n ≤ ds.length then D.ints? (ds.take n) else none
  | _ => none
def keysN (n : Nat) : List D → Option (List (List Int))
  | [] => some []
  | d :: r => match keyN n d, keysN n r with
    | some k, some ks => some (k :: ks)
    | _, _ => none
def lenIs (n : Nat) : D → Bool
  | .tup ds => ds.length == n
  | _ => false
def sortN (n : Nat) (xs : List D) : Option (List D) := match keysN n xs with
  | some ks => if 1 ≤ n ∧ (ks.Nodup ∨ xs.all (lenIs n) = true) then some ((sortL ltK (ks.zip xs)).map (·.2)) else none
  | none => none
def sortedD (xs : List D) : Option (List D) := match xs with
  | [] => some []
  | [x] => some [x]
  | .tup ds :: r => sortN (leadN ds) (.tup ds :: r)
  | .int i :: r => match D.ints? r with
    | some ns => some ((sortL (fun a b => decide (a < b)) (i :: ns)).map D.int)
    | none => none
  | _ => none

mutual
inductive E where
  | var (i : Nat)
  | ci (i : Int)
  | cs (x : Str)
  | cb (b : Bool)
  | cn
  | glob (j : Nat)
  | bin (o : BOp) (a b : E)
  | neg (a : E)
  | not (a : E)
  | cmp (o : COp) (a b : E)
  | chain (o o' : COp) (a b c : E)
  | and (a b : E)
  | or (a b : E)
  | ite (c : B) (a b : E)
  | tup (es : Es)
  | lst (es : Es)
  | sub (a i : E)
  | sl (a : E) (lo hi : OE)
  | bi (b : Bi) (a : E)
  | isi (t : Ty) (a : E)
  | call (f : Nat) (es : Es)
  | lc (own : List (Str × Nat)) (t : T) (it : I) (c : B) (e : E)
  | lc2 (own : List (Str × Nat)) (vs1 : List Nat) (t : T) (it : I) (c : B) (t2 : T) (it2 : I) (c2 : B) (e : E)
  | dnew (ks : List Str) (es : Es)
  | lnew (es : Es)
  | dget (a : E) (k : E)
  | lget (a : E) (k : E)
  | isx (a : E) (t : Str) (yes no : List Str)
  | lrng (a : E)
  | trng (a : E)
  | fld (a : E) (f : Str) (ok : List Str)
  | dlit (kvs : List (Int × Int))
  | revT (a : E)
  | isiT (a : E)
  | isxT (a : E) (ts no : List Str)
  | never
  | kdnew
  | minI (a b : E)
  | maxI (a b : E)
inductive Es where
  | nil
  | cons (e : E) (r : Es)
inductive OE where
  | none
  | some (e : E)
inductive B where
  | yes
  | val (e : E)
  | not (b : B)
  | and (a b : B)
  | or (a b : B)
inductive T where
  | name (i : Nat)
  | tup (ts : Ts)
inductive Ts where
  | nil
  | cons (t : T) (r : Ts)
inductive I where
  | seq (e : E)
  | rng1 (a : E)
  | rng2 (a b : E)
  | rng3 (a b c : E)
  | enum (e : E)
  | zip (a b : E)
  | keys (e : E)
end

abbrev Env := List (Option D)
structure Tb where
  fn : Nat → List D → M D
  cst : Nat → Option D

def ldE (ρ : Env) (i : Nat) : M D := match ρ[i]? with
  | some (some (.own xs)) => M.ret (.bor xs)
  | some (some (.okd _ _)) => M.bad
  | some (some .lam) => M.bad
  | some (some d) => M.ret d
  | _ => M.bad
def handM (d : D) : M D := M.ofO d.hand
def lkK (k : Key) : List (Key × D) → Option D
  | [] => none
  | (j, d) :: r => if j = k then some d else lkK k r
def ptK (k : Key) (v : D) : List (Key × D) → List (Key × D)
  | [] => [(k, v)]
  | (j, d) :: r => if j = k then (j, v) :: r else (j, d) :: ptK k v r
def keyOf : D → Option Key
  | .int i => some (.inl i)
  | .str x => some (.inr x)
  | _ => none
def biM (b : Bi) (d : D) : M D := fun S => match b, d with
  | .len, .kd ks _ => if ks.length ≤ sizeLine then .ok (.int ks.length) S else .bad
  | .len, .str x => if x.length ≤ sizeLine then .ok (.int x.length) S else .bad
  | .len, d => match d.seq? with
    | some xs => .ok (.int xs.length) S
    | none => .bad
  | .all, d => match d.list?.bind D.bls? with
    | some bs => .ok (.bl (bs.all id)) S
    | none => .bad
  | .sum, d => match d.list?.bind D.ints? with
    | some ns => .ok (.int ns.sum) S
    | none => .bad
  | .tuple, d => match d.seq? with
    | some xs => .ok (.tup xs) S
    | none => .bad
  | .list, d => match d.seq? with
    | some xs => .ok (.own xs) S
    | none => .bad
  | .abs, .int i => .ok (.int (if i < 0 then -i else i)) S
  | .int, .int i => .ok (.int i) S
  | .int, .bl b => .ok (.int (if b then 1 else 0)) S
  | .repr, d => match d.py with
    | some p => if p.showable && !p.hasDict && decide (p.depth ≤ 60) && decide (p.shown.length ≤ sizeLine) then .ok (.str p.shown) S else .bad
    | none => match d.pyR with
      | some p => if p.showable && decide (p.depth ≤ 60) && decide (p.shown.length ≤ sizeLine) then .ok (.str p.shown) S else .bad
      | none => .bad
  | .str, .int i => if i.natAbs.log2 < 1920 then .ok (.str (Str.ofString (toString i))) S else .bad
  | .str, .non => .ok (.str (Str.ofString "None")) S
  | .sorted, d => match d.seq?.bind sortedD with
    | some xs => .ok (.own xs) S
    | none => .bad
  | .sortedSet, d => match d.list?.bind sortedSetD with
    | some xs => .ok (.own xs) S
    | none => .bad
  | _, _ => .bad
def rngD (lo hi : Int) : List D := (List.range (hi - lo).toNat).map fun (k : Nat) => D.int (lo + k)
def rng62 (i : Int) : Bool := decide (-(2 ^ 62) ≤ i ∧ i < 2 ^ 62)
/-- downward by one: a, a - 1, .. above b -/
def rngDn (a b : Int) : List D := (List.range (a - b).toNat).map fun (k : Nat) => D.int (a - k)
def enumFrom (k : Nat) : List D → List D
  | [] => []
  | d :: r => .tup [.int k, d] :: enumFrom (k + 1) r
def zipD : List D → List D → List D
  | a :: r, b :: s => .tup [a, b] :: zipD r s
  | _, _ => []
mutual
def asgT : T → D → Env → Option Env
  | .name i, d, ρ => if i < ρ.length then some (ρ.set i (some d)) else none
  | .tup ts, .tup xs, ρ => asgTs ts xs ρ
  | .tup _, _, _ => none
def asgTs : Ts → List D → Env → Option Env
  | .nil, [], ρ => some ρ
  | .cons t r, d :: xs, ρ => (asgT t d ρ).bind (asgTs r xs)
  | _, _, _ => none
end
def wipeE (ρ : Env) : List Nat → Env
  | [] => ρ
  | v :: vs => (wipeE ρ vs).set v none
/-- the items made, one behind the other -/
def lcM (f : D → M (Option D)) : List D → List D → M (List D)
  | acc, [] => M.ret acc
  | acc, x :: xs => M.bnd (f x) fun o => if acc.length < sizeLine then lcM f (acc ++ o.toList) xs else M.bad
def lcF (f : D → List D → M (List D)) : List D → List D → M (List D)
  | acc, [] => M.ret acc
  | acc, x :: xs => M.bnd (f x acc) fun acc' => lcF f acc' xs
def newM (o : MO) : M D := fun S => .ok (.ref S.length) (S ++ [o])
def dgetM (x y : D) : M D := fun S => match x, keyOf y with
  | .ref n, some k => match S[n]? with
    | some (.dk kvs) => match lkK k kvs with
      | some d => .ok d S
      | none => .bad
    | _ => .bad
  | _, _ => .bad
/-- o[i], o a list of the store -/
def lgetM (x y : D) : M D := fun S => match x, y with
  | .ref n, .int i => match S[n]? with
    | some (.lst xs) => match L2.atI xs i with
      | some d => .ok d S
      | none => .bad
    | _ => .bad
  | _, _ => .bad
/-- list(range(j)), tuple(range(j)) -/
def rngOk (j : Int) : Bool := decide (-(2 ^ 62) ≤ j ∧ j < 2 ^ 62 ∧ j.toNat ≤ 2 ^ 24)
def rngM (mk : List D → D) : D → M D
  | .int j => if rngOk j then M.ret (mk (rngD 0 j)) else M.bad
  | _ => M.bad
/-- isinstance of a caught error: the classes that are, those that are not -/
def isxM (yes no : List Str) : D → M D
  | .exn0 c => if c ∈ yes then M.ret (.bl true) else if c ∈ no then M.ret (.bl false) else M.bad
  | .exn1 c _ _ => if c ∈ yes then M.ret (.bl true) else if c ∈ no then M.ret (.bl false) else M.bad
  | _ => M.bad
def fldM (f : Str) (ok : List Str) : D → M D
  | .exn1 c g d => if g = f ∧ c ∈ ok then M.ret d else M.bad
  | _ => M.bad
def mnxM (f : Int → Int → Int) : D → D → M D
  | .int i, .int j => M.ret (.int (f i j))
  | _, _ => M.bad
def revM : D → M D
  | .tup xs => M.ret (.tup xs.reverse)
  | _ => M.bad
def zipK : List Str → List D → Option (List (Key × D))
  | [], [] => some []
  | k :: ks, d :: ds => (zipK ks ds).map ((Sum.inr k, d) :: ·)
  | _, _ => none
def dnewM (ks : List Str) (xs : List D) : M D := match zipK ks xs with
  | some kvs => if decide (ks.Nodup ∧ ks.length ≤ 15) then newM (.dk kvs) else M.bad
  | none => M.bad
mutual
def den (Φ : Tb) : E → Env → M D
  | .var i, ρ => ldE ρ i
  | .ci i, _ => M.ret (.int i)
  | .cs x, _ => M.ret (.str x)
  | .cb b, _ => M.ret (.bl b)
  | .cn, _ => M.ret .non
  | .glob j, _ => M.ofO (Φ.cst j)
  | .bin o a b, ρ => M.bnd (den Φ a ρ) fun x => M.bnd (den Φ b ρ) fun y => M.ofO (binD o x y)
  | .neg a, ρ => M.bnd (den Φ a ρ) fun x => match x with
    | .int i => M.ret (.int (-i))
    | _ => M.bad
  | .not a, ρ => M.bnd (den Φ a ρ) fun x => match x with
    | .bl b => M.ret (.bl (!b))
    | _ => M.bad
  | .cmp o a b, ρ => M.bnd (den Φ a ρ) fun x => M.bnd (den Φ b ρ) fun y => M.ofO ((cmpD o x y).map .bl)
  | .chain o o' a b c, ρ => M.bnd (den Φ a ρ) fun x => M.bnd (den Φ b ρ) fun y => M.bnd (M.ofO (cmpD o x y)) fun k => if k then M.bnd (den Φ c ρ) fun z => M.ofO ((cmpD o' y z).map .bl) else M.ret (.bl false)
  | .and a b, ρ => M.bnd (den Φ a ρ) fun x => match x with
    | .bl true => den Φ b ρ
    | .bl false => M.ret (.bl false)
    | _ => M.bad
  | .or a b, ρ => M.bnd (den Φ a ρ) fun x => match x with
    | .bl false => den Φ b ρ
    | .bl true => M.ret (.bl true)
    | _ => M.bad
  | .ite c a b, ρ => M.bnd (denB Φ c ρ) fun k => if k then den Φ a ρ else den Φ b ρ
  | .tup es, ρ => M.bnd (dens Φ es ρ) fun xs => if xs.length ≤ sizeLine then M.ret (.tup xs) else M.bad
  | .lst es, ρ => M.bnd (dens Φ es ρ) fun xs => if xs.length ≤ sizeLine then M.ret (.own xs) else M.bad
  | .sub a i, ρ => M.bnd (den Φ a ρ) fun x => M.bnd (den Φ i ρ) fun y => M.ofO (subD x y)
  | .sl a lo hi, ρ => M.bnd (den Φ a ρ) fun x => M.bnd (denO Φ lo ρ) fun l => M.bnd (denO Φ hi ρ) fun h => M.ofO (slD x l h)
  | .bi b a, ρ => M.bnd (den Φ a ρ) (biM b)
  | .isi t a, ρ => M.bnd (den Φ a ρ) fun x => M.ofO ((isiD t x).map .bl)
  | .call f es, ρ => M.bnd (dens Φ es ρ) (Φ.fn f)
  | .lc own t it c e, ρ => M.bnd (denI Φ it ρ) fun xs => M.bnd (lcM (fun x => M.calm (M.bnd (M.ofO (asgT t x (wipeE ρ (own.map (·.2))))) fun ρ' => M.bnd (denB Φ c ρ') fun k =>
      if k then M.bnd (M.bnd (den Φ e ρ') handM) fun y => M.ret (some y) else M.ret none)) [] xs) fun ys => M.ret (.own ys)
  | .lc2 own vs1 t it c t2 it2 c2 e, ρ => M.bnd (denI Φ it ρ) fun xs => M.bnd (lcF (fun x acc => M.bnd (M.calm (M.ofO (asgT t x (wipeE ρ (own.map (·.2)))))) fun ρ2 => M.bnd (M.calm (denB Φ c ρ2)) fun k =>
      if k then M.bnd (M.calm (denI Φ it2 ρ2)) fun ys => lcM (fun y => M.calm (M.bnd (M.ofO (asgT t2 y (wipeE ρ2 vs1))) fun ρ3 => M.bnd (denB Φ c2 ρ3) fun k2 =>
        if k2 then M.bnd (M.bnd (den Φ e ρ3) handM) fun z => M.ret (some z) else M.ret none)) acc ys else M.ret acc) [] xs) fun ys => M.ret (.own ys)
  | .dnew ks es, ρ => M.bnd (dens Φ es ρ) fun xs => dnewM ks xs
  | .lnew es, ρ => M.bnd (dens Φ es ρ) fun xs => if xs.length ≤ sizeLine then newM (.lst xs) else M.bad
  | .dget a k, ρ => M.bnd (den Φ a ρ) fun x => M.bnd (den Φ k ρ) fun y => dgetM x y
  | .lget a k, ρ => M.bnd (den Φ a ρ) fun x => M.bnd (den Φ k ρ) fun y => lgetM x y
  | .isx a _ yes no, ρ => M.bnd (den Φ a ρ) (isxM yes no)
  | .fld a f ok, ρ => M.bnd (den Φ a ρ) (fldM f ok)
  | .lrng a, ρ => M.bnd (den Φ a ρ) (rngM .own)
  | .trng a, ρ => M.bnd (den Φ a ρ) (rngM .tup)
  | .dlit kvs, _ => if decide ((kvs.map (·.1)).Nodup ∧ kvs.length ≤ 15) then M.ret (.dct kvs) else M.bad
  | .revT a, ρ => M.bnd (den Φ a ρ) revM
  | .isiT a, ρ => M.bnd (den Φ a ρ) fun x => M.ofO ((isiD .tupleList x).map .bl)
  | .isxT a _ no, ρ => M.bnd (den Φ a ρ) (isxM [] no)
  | .never, _ => M.bad
  | .kdnew, _ => M.ret (.okd [] [])
  | .minI a b, ρ => M.bnd (den Φ a ρ) fun x => M.bnd (den Φ b ρ) fun y => mnxM (fun i j => if j < i then j else i) x y
  | .maxI a b, ρ => M.bnd (den Φ a ρ) fun x => M.bnd (den Φ b ρ) fun y => mnxM (fun i j => if i < j then j else i) x y
def dens (Φ : Tb) : Es → Env → M (List D)
  | .nil, _ => M.ret []
  | .cons e r, ρ => M.bnd (M.bnd (den Φ e ρ) handM) fun x => M.bnd (dens Φ r ρ) fun xs => M.ret (x :: xs)
def denO (Φ : Tb) : OE → Env → M (Option Int)
  | .none, _ => M.ret none
  | .some e, ρ => M.bnd (den Φ e ρ) fun x => match x with
    | .int i => M.ret (some i)
    | _ => M.bad
/-- as a test -/
def denB (Φ : Tb) : B → Env → M Bool
  | .yes, _ => M.ret true
  | .val e, ρ => M.bnd (den Φ e ρ) fun x => M.ofO (truD x)
  | .not b, ρ => M.bnd (denB Φ b ρ) fun k => M.ret (!k)
  | .and a b, ρ => M.bnd (denB Φ a ρ) fun k => if k then denB Φ b ρ else M.ret false
  | .or a b, ρ => M.bnd (denB Φ a ρ) fun k => if k then M.ret true else denB Φ b ρ
def denI (Φ : Tb) : I → Env → M (List D)
  | .seq e, ρ => M.bnd (M.bnd (den Φ e ρ) handM) fun x => M.ofO x.seq?
  | .rng1 a, ρ => M.bnd (den Φ a ρ) fun x => match x with
    | .int j => if rng62 j then M.ret (rngD 0 j) else M.bad
    | _ => M.bad
  | .rng2 a b, ρ => M.bnd (den Φ a ρ) fun x => M.bnd (den Φ b ρ) fun y => match x, y with
    | .int i, .int j => if rng62 i && rng62 j then M.ret (rngD i j) else M.bad
    | _, _ => M.bad
  | .rng3 a b c, ρ => M.bnd (den Φ a ρ) fun x => M.bnd (den Φ b ρ) fun y => M.bnd (den Φ c ρ) fun z => match x, y, z with
    | .int i, .int j, .int k => if k = -1 ∧ rng62 i = true ∧ rng62 j = true then M.ret (rngDn i j) else M.bad
    | _, _, _ => M.bad
  | .enum e, ρ => M.bnd (M.bnd (den Φ e ρ) handM) fun x => match x.seq? with
    | some xs => M.ret (enumFrom 0 xs)
    | none => M.bad
  | .zip a b, ρ => M.bnd (M.bnd (den Φ a ρ) handM) fun x => M.bnd (M.bnd (den Φ b ρ) handM) fun y => match x, y with
    | .tup xs, .tup ys => M.ret (zipD xs ys)
    | .lst xs, .lst ys => M.ret (zipD xs ys)
    | _, _ => M.bad
  | .keys e, ρ => M.bnd (den Φ e ρ) fun x => match x with
    | .kd ks _ => M.ret ks
    | _ => M.bad
end

mutual
inductive S where
  | pass
  | brk
  | cnt
  | asg (i : Nat) (e : E)
  | asgLc (i : Nat) (own : List (Str × Nat)) (t : T) (it : I) (c : B) (e : E)
  | asgLc2 (i : Nat) (own : List (Str × Nat)) (vs1 : List Nat) (t : T) (it : I) (c : B) (t2 : T) (it2 : I) (c2 : B) (e : E)
  | unp (ts : Ts) (e : E)
  | par (i j : Nat) (a b : E)
  | aug (i : Nat) (o : BOp) (e : E)
  | setK (o k e : E)
  | app (i : Nat) (e : E)
  | rev (i : Nat)
  | expr (e : E)
  | ret (e : E)
  | retO (i : Nat)
  | retN
  | iff (c : B) (a b : Ss)
  | for (t : T) (it : I) (b : Ss)
  | whl (n : Nat) (c : B) (b : Ss)
  | never
  | frz (i : Nat)
  | par3 (i j l : Nat) (a b c : E)
  | appPop (i j : Nat) (e : E)
  | ext (i : Nat) (e : E)
  | raise0 (x : Str)
  | raise1 (x f : Str) (e : E)
  | tryS (b : Ss) (hs : Hs)
  | updK (i : Nat) (e : E)
  | frzK (i : Nat)
inductive Ss where
  | nil
  | cons (s : S) (r : Ss)
/-- except clauses: the class, the name's slot, the suite; the classes that it takes, those that it lets by -/
inductive Hs where
  | nil
  | cons (t : Str) (i : Option Nat) (su : S) (yes no : List Str) (r : Hs)
end
inductive Fl where
  | nx (ρ : Env)
  | rt (d : D)
  | bk (ρ : Env)
  | ct (ρ : Env)
  | ex (x : Exn) (ρ : Env)
/-- a piece within a statement; an error leaves from here -/
def tryM {α : Type} (m : M α) (ρ : Env) (f : α → M Fl) : M Fl := fun S => match m S with
  | .ok a S' => f a S'
  | .exc x S' => .ok (.ex x ρ) S'
  | .bad => .bad
def seqM (m : M Fl) (f : Env → M Fl) : M Fl := fun S => match m S with
  | .ok (.nx ρ) S' => f ρ S'
  | r => r
def forM (f : D → Env → M Fl) : List D → Env → M Fl
  | [], ρ => M.ret (.nx ρ)
  | x :: xs, ρ => fun S => match f x ρ S with
    | .ok (.nx ρ') S' => forM f xs ρ' S'
    | .ok (.ct ρ') S' => forM f xs ρ' S'
    | .ok (.bk ρ') S' => .ok (.nx ρ') S'
    | r => r
def whlM (c : Env → M Bool) (f : Env → M Fl) : Nat → Env → M Fl
  | 0, _ => M.bad
  | n + 1, ρ => tryM (c ρ) ρ fun k => if k then fun S => match f ρ S with
    | .ok (.nx ρ') S' => whlM c f n ρ' S'
    | .ok (.ct ρ') S' => whlM c f n ρ' S'
    | .ok (.bk ρ') S' => .ok (.nx ρ') S'
    | r => r
    else M.ret (.nx ρ)
def setI (ρ : Env) (i : Nat) (d : D) : M Fl := match d with
  | .bor _ => M.bad
  | .lam => M.bad
  | d => if i < ρ.length then M.ret (.nx (ρ.set i (some d))) else M.bad
def ownAt (ρ : Env) (i : Nat) : Option (List D) := match ρ[i]? with
  | some (some (.own xs)) => some xs
  | _ => none
def okdAt (ρ : Env) (i : Nat) : Option (List D × List D) := match ρ[i]? with
  | some (some (.okd ks vs)) => some (ks, vs)
  | _ => none
/-- pairs put into a dict, one behind the other -/
def kdAdd : List D → List D × List D → Option (List D × List D)
  | [], p => some p
  | .tup [x, v] :: r, p => match x.key with
    | some k => kdAdd r (kdPut x k v p.1 p.2)
    | none => none
  | _, _ => none
def augD : BOp → D → D → Option D
  | .add, .int i, .int j => some (.int (i + j))
  | .sub, .int i, .int j => some (.int (i - j))
  | .mul, .int i, .int j => if small i || small j then some (.int (i * j)) else none
  | _, _, _ => none
def smallIx (n : Int) : Bool := decide (-16777216 ≤ n ∧ n ≤ 16777216)
def popAt (ys : List D) : D → Option (D × List D)
  | .int n => if smallIx n then match seqIndex? n ys.length with
    | some k => match ys[k]? with
      | some y => some (y, ys.eraseIdx k)
      | none => none
    | none => none
    else none
  | _ => none
/-- o[k] = v in the store -/
def putM (o k v : D) : M Unit := fun S => match o, v.hand with
  | .ref n, some v => match S[n]? with
    | some (.dk kvs) => match keyOf k with
      | some key => if kvs.length < sizeLine then .ok () (S.set n (.dk (ptK key v kvs))) else .bad
      | none => .bad
    | some (.lst xs) => match k with
      | .int i => match L2.ixN xs.length i with
        | some j => .ok () (S.set n (.lst (xs.set j v)))
        | none => .bad
      | _ => .bad
    | _ => .bad
  | _, _ => .bad
/-- a clause's name, bound, and gone again -/
def bindX (x : Exn) (ρ : Env) : Option Nat → Env
  | none => ρ
  | some i => ρ.set i (some x.val)
def wipe1 (ρ : Env) : Option Nat → Env
  | none => ρ
  | some i => ρ.set i none
def clearM (i : Option Nat) (m : M Fl) : M Fl := fun S => match m S with
  | .ok (.nx ρ) S' => .ok (.nx (wipe1 ρ i)) S'
  | .ok (.rt d) S' => .ok (.rt d) S'
  | _ => .bad
/-- a block whose errors are looked at -/
def catchM (m : M Fl) (h : Exn → Env → M Fl) : M Fl := fun S => match m S with
  | .ok (.ex x ρ) S' => h x ρ S'
  | r => r
mutual
def exec (Φ : Tb) : S → Env → M Fl
  | .pass, ρ => M.ret (.nx ρ)
  | .brk, ρ => M.ret (.bk ρ)
  | .cnt, ρ => M.ret (.ct ρ)
  | .asg i e, ρ => tryM (den Φ e ρ) ρ (setI ρ i)
  | .asgLc i own t it c e, ρ => tryM (den Φ (.lc own t it c e) ρ) ρ (setI ρ i)
  | .asgLc2 i own vs1 t it c t2 it2 c2 e, ρ => tryM (den Φ (.lc2 own vs1 t it c t2 it2 c2 e) ρ) ρ (setI ρ i)
  | .unp ts e, ρ => tryM (den Φ e ρ) ρ fun d => match asgT (.tup ts) d ρ with
    | some ρ' => M.ret (.nx ρ')
    | none => M.bad
  | .par i j a b, ρ => tryM (den Φ a ρ) ρ fun x => tryM (den Φ b ρ) ρ fun y => seqM (setI ρ i x) fun ρ' => setI ρ' j y
  | .aug i o e, ρ => tryM (ldE ρ i) ρ fun x => tryM (den Φ e ρ) ρ fun y => tryM (M.ofO (augD o x y)) ρ (setI ρ i)
  | .setK o k e, ρ => tryM (M.bnd (den Φ e ρ) handM) ρ fun v => tryM (den Φ o ρ) ρ fun x => tryM (den Φ k ρ) ρ fun y => tryM (putM x y v) ρ fun _ => M.ret (.nx ρ)
  | .app i e, ρ => match ownAt ρ i with
    | some xs => tryM (M.bnd (den Φ e ρ) handM) ρ fun v => if xs.length < sizeLine then M.ret (.nx (ρ.set i (some (.own (xs ++ [v]))))) else M.bad
    | none => M.bad
  | .rev i, ρ => match ownAt ρ i with
    | some xs => M.ret (.nx (ρ.set i (some (.own xs.reverse))))
    | none => M.bad
  | .expr e, ρ => tryM (den Φ e ρ) ρ fun _ => M.ret (.nx ρ)
  | .ret e, ρ => tryM (den Φ e ρ) ρ fun d => match d with
    | .bor _ => M.bad
    | d => M.ret (.rt d)
  | .retO i, ρ => match ownAt ρ i with
    | some xs => M.ret (.rt (.own xs))
    | none => M.bad
  | .retN, _ => M.ret (.rt .non)
  | .iff c a b, ρ => tryM (denB Φ c ρ) ρ fun k => if k then execs Φ a ρ else execs Φ b ρ
  | .for t it b, ρ => tryM (denI Φ it ρ) ρ fun xs => forM (fun x ρ => match asgT t x ρ with
    | some ρ' => execs Φ b ρ'
    | none => M.bad) xs ρ
  | .whl n c b, ρ => whlM (denB Φ c) (execs Φ b) n ρ
  | .never, _ => M.bad
  | .frz i, ρ => match ownAt ρ i with
    | some xs => M.ret (.nx (ρ.set i (some (.lst xs))))
    | none => M.bad
  | .par3 i j l a b c, ρ => tryM (den Φ a ρ) ρ fun x => tryM (den Φ b ρ) ρ fun y => tryM (den Φ c ρ) ρ fun z => seqM (setI ρ i x) fun ρ' => seqM (setI ρ' j y) fun ρ2 => setI ρ2 l z
  | .appPop i j e, ρ => match ownAt ρ i, ownAt ρ j with
    | some xs, some ys => tryM (den Φ e ρ) ρ fun d => match popAt ys d with
      | some (y, zs) => if xs.length < sizeLine then M.ret (.nx ((ρ.set j (some (.own zs))).set i (some (.own (xs ++ [y]))))) else M.bad
      | none => M.bad
    | _, _ => M.bad
  | .ext i e, ρ => match ownAt ρ i with
    | some xs => tryM (den Φ e ρ) ρ fun d => match d.list? with
      | some ys => if xs.length + ys.length ≤ sizeLine then M.ret (.nx (ρ.set i (some (.own (xs ++ ys))))) else M.bad
      | none => M.bad
    | none => M.bad
  | .updK i e, ρ => match okdAt ρ i with
    | some p => tryM (den Φ e ρ) ρ fun d => match d.list? with
      | some ds => match kdAdd ds p with
        | some q => if p.1.length + ds.length ≤ sizeLine then M.ret (.nx (ρ.set i (some (.okd q.1 q.2)))) else M.bad
        | none => M.bad
      | none => M.bad
    | none => M.bad
  | .frzK i, ρ => match okdAt ρ i with
    | some p => M.ret (.nx (ρ.set i (some (.kd p.1 p.2))))
    | none => M.bad
  | .raise0 x, ρ => M.ret (.ex ⟨x, none⟩ ρ)
  | .raise1 x f e, ρ => tryM (M.bnd (den Φ e ρ) handM) ρ fun d => M.ret (.ex ⟨x, some (f, d)⟩ ρ)
  | .tryS b hs, ρ => catchM (execs Φ b ρ) (handleM Φ hs)
def execs (Φ : Tb) : Ss → Env → M Fl
  | .nil, ρ => M.ret (.nx ρ)
  | .cons s r, ρ => seqM (exec Φ s ρ) (execs Φ r)
def handleM (Φ : Tb) : Hs → Exn → Env → M Fl
  | .nil, x, ρ => M.ret (.ex x ρ)
  | .cons _ i su yes no r, x, ρ => if x.cls ∈ yes then clearM i (exec Φ su (bindX x ρ i)) else if x.cls ∈ no then handleM Φ r x ρ else M.bad
end
/-- a def: how many slots, its body -/
structure Fn where
  many : Nat
  slots : Nat
  body : Ss
def callM (Φ : Tb) (f : Fn) (args : List D) : M D := fun S =>
  if args.length = f.many then
    match execs Φ f.body (args.map some ++ List.replicate (f.slots - args.length) none) S with
    | .ok (.nx _) S' => .ok .non S'
    | .ok (.rt d) S' => .ok d S'
    | .ok (.ex x _) S' => .exc x S'
    | _ => .bad
  else .bad
/-- the defs, so many calls deep -/
def fnAt (defs : List Fn) (cst : Nat → Option D) : Nat → Nat → List D → M D
  | 0, _, _ => M.bad
  | k + 1, f, args => match defs[f]? with
    | some fn => callM ⟨fnAt defs cst k, cst⟩ fn args
    | none => M.bad
end WB
set_option autoImplicit false
namespace WB
open PySem L2

/-- a lambda in flight: its object, its code object, what it captured -/
structure Lm where
  f : Addr
  c : Addr
  q : Str
  σ : St
  ρ : Env
/-- tables of code objects; the lambda that the def got -/
structure Gt where
  T : List (Addr × Str)
  lf : Option Lm
/-- Z: the lists that nobody changes any more; ids: where the store's things lie -/
structure Gh where
  Z : Addr → Prop
  ids : List Addr
  T : Gt
/-- a dict with tuples as keys: its entries -/
def KDo (d : Addr) (o : Obj) (xs : List (NestedKey × Addr × Value)) : HO := .ext fun h => (d == sysModules) = false ∧ h.get? d = some o ∧ o.ExactDict ∧ ∃ es ep, o.data = .dict es ep ∧ ∀ w : World, es.toList = xs.map fun x => ⟨x.1.hash w, .ref x.2.1, x.2.2⟩
/-- what nobody changes: a caught error, its dict -/
def Fx : HO → Prop
  | .ext φ => ∀ d o es, HO.ext φ ≠ KDo d o es
  | .xd _ => True
  | _ => False
/-- a caught error of the class at C -/
def ExK (a C : Addr) (d : Option Addr) : HO := .ext fun h => ∃ (o : Obj) (vs : Array Value), h.get? a = some o ∧ o.cls = .ref C ∧ o.dict = d ∧ o.data = .fields vs
/-- a heap in which one object stands at a -/
def heapAt (a : Addr) (o : Obj) : Heap := { objs := Array.replicate (a + 1) o }
theorem heapAt_get {a : Addr} {c : Value} {d : Option Addr} {vs : Array Value} : (heapAt a { cls := c, dict := d, data := .fields vs }).get? a = some { cls := c, dict := d, data := .fields vs } := by
  unfold heapAt Heap.get?
  simp
theorem heapAt_all {a b : Addr} {o u : Obj} (h : (heapAt a o).get? b = some u) : u = o := by
  unfold heapAt Heap.get? at h
  simp only [Array.getElem?_replicate] at h
  split at h
  · cases h
  · rename_i z _
    split at h
    · cases h; rfl
    · cases h
theorem fx_of {φ : Heap → Prop} (a : Addr) (o : Obj) (h : φ (heapAt a o)) (hn : ∀ es ep, o.data ≠ .dict es ep) : Fx (.ext φ) := fun d u es e => by
  unfold KDo at e
  injection e with e
  rw [e] at h
  obtain ⟨_, h1, _, es, ep, h3, _⟩ := h
  rw [heapAt_all h1] at h3
  exact hn _ _ h3
theorem fx_exk {a C : Addr} {d : Option Addr} : Fx (ExK a C d) := fx_of a { cls := .ref C, dict := d, data := .fields #[] } ⟨_, #[], heapAt_get, rfl, rfl, rfl⟩ (fun _ _ z => nomatch z)
theorem fx_code {c : Addr} {q : Str} : Fx (LamX.CodeO c q) := fx_of c { cls := .none, data := .fields #[.none, .str q default] } ⟨_, _, default, heapAt_get, rfl, rfl⟩ (fun _ _ z => nomatch z)
theorem kd_tbl {d : Addr} {o : Obj} {es : List (NestedKey × Addr × Value)} (ps : Array Value) : KDo d o es ≠ .tbl ps := fun z => by
  unfold KDo at z
  cases z
theorem fx_kd {d : Addr} {o : Obj} {es : List (NestedKey × Addr × Value)} : ¬ Fx (KDo d o es) := fun h => h d o es rfl

def FzL (G : Gh) (H : Hp) (a : Addr) (xs : List V) : Prop := G.Z a ∧ H a = some (.lst xs)
/-- the script: locked, or of the written part -/
def ScL (K : PySem.W.Frag) (H : Hp) (a : Addr) (xs : List V) : Prop := (∃ o, H a = some (.frz o (.lst xs))) ∨ SqL K (fun _ => none) a xs
/-- entries, their keys by value and as they stand, their values -/
inductive EntX : List (NestedKey × Addr × Value) → List D → List V → List V → Prop
  | nil : EntX [] [] [] []
  | cons {k : NestedKey} {b : Addr} {u : Value} {d : D} {x : V} {xs : List (NestedKey × Addr × Value)} {ks : List D} {kv xv : List V} : d.key = some k → RelV x u → EntX xs ks kv xv → EntX ((k, b, u) :: xs) (d :: ks) (.ref b :: kv) (x :: xv)
structure Ents (xs : List (NestedKey × Addr × Value)) (ks : List D) (kv xv : List V) : Prop where
  l : EntX xs ks kv xv
  nd : (xs.map (·.1)).Nodup
  sz : xs.length ≤ sizeLine
mutual
inductive Rl0 (K : PySem.W.Frag) (G : Gh) (H : Hp) : V → D → Prop
  | non : Rl0 K G H .non .non
  | bl (b : Bool) : Rl0 K G H (.bl b) (.bl b)
  | int (i : Int) : Rl0 K G H (.int i) (.int i)
  | str (x : Str) : Rl0 K G H (.str x) (.str x)
  | tup {a : Addr} {xs : List V} {ds : List D} : SqT K H a xs → Rls K G H xs ds → Rl0 K G H (.ref a) (.tup ds)
  | lst {a : Addr} {xs : List V} {ds : List D} : FzL G H a xs → Rls K G H xs ds → Rl0 K G H (.ref a) (.lst ds)
  | scr {a : Addr} {xs : List V} {ds : List D} : ScL K H a xs → Rls K G H xs ds → Rl0 K G H (.ref a) (.scr ds)
  | ref {a : Addr} {n : Nat} : G.ids[n]? = some a → Rl0 K G H (.ref a) (.ref n)
  | exn0 {a C : Addr} {x : Str} : H a = some (ExK a C none) → PySem.W.nsIn K mainGlobals x = some (some (.ref C)) → Rl0 K G H (.ref a) (.exn0 x)
  | exn1 {a C dx : Addr} {x f : Str} {v : V} {d : D} : H a = some (ExK a C (some dx)) → PySem.W.nsIn K mainGlobals x = some (some (.ref C)) → H dx = some (.xd [(f, v)]) → Rl0 K G H v d → Rl0 K G H (.ref a) (.exn1 x f d)
  | dct {a : Addr} {kvs : List (Int × Int)} : G.Z a → H a = some (.dK (kvs.map fun p => (.inl p.1, .int p.2))) → Rl0 K G H (.ref a) (.dct kvs)
  | kd {a : Addr} {o : Obj} {es : List (NestedKey × Addr × Value)} {ks vs : List D} {kv xv : List V} : G.Z a → H a = some (KDo a o es) → Ents es ks kv xv → Rls K G H kv ks → Rls K G H xv vs → Rl0 K G H (.ref a) (.kd ks vs)
inductive Rls (K : PySem.W.Frag) (G : Gh) (H : Hp) : List V → List D → Prop
  | nil : Rls K G H [] []
  | cons {v : V} {d : D} {vs : List V} {ds : List D} : Rl0 K G H v d → Rls K G H vs ds → Rls K G H (v :: vs) (d :: ds)
end
inductive Rl (K : PySem.W.Frag) (G : Gh) (H : Hp) : V → D → Prop
  | base {v : V} {d : D} : Rl0 K G H v d → Rl K G H v d
  | own {a : Addr} {xs : List V} {ds : List D} : H a = some (.lst xs) → ¬ G.Z a → a ∉ G.ids → Rls K G H xs ds → Rl K G H (.ref a) (.own ds)
  | bor {a : Addr} {xs : List V} {ds : List D} : H a = some (.lst xs) → ¬ G.Z a → a ∉ G.ids → Rls K G H xs ds → Rl K G H (.ref a) (.bor ds)
  | okd {a : Addr} {o : Obj} {es : List (NestedKey × Addr × Value)} {ks vs : List D} {kv xv : List V} : H a = some (KDo a o es) → ¬ G.Z a → a ∉ G.ids → Ents es ks kv xv → Rls K G H kv ks → Rls K G H xv vs → Rl K G H (.ref a) (.okd ks vs)
  | lam {L : Lm} : G.T.lf = some L → H L.c = some (LamX.CodeO L.c L.q) → (∀ (i : Nat) (d : D), L.ρ[i]? = some (some d) → ∃ v, L.σ[i]? = some (some v) ∧ Rl0 K G H v d) → Rl K G H (.ref L.f) .lam

/-- from (G, H) on to (G', H'): what stands in B is kept -/
structure Ext (B : Hp) (G : Gh) (H : Hp) (G' : Gh) (H' : Hp) : Prop where
  keep : ∀ a o, B a ≠ none → H a = some o → a ∉ G.ids → (∀ ps, o ≠ .tbl ps) → H' a = some o
  tups : ∀ a xs, H a = some (.tup xs) → H' a = some (.tup xs)
  frzs : ∀ a o u, H a = some (.frz o u) → H' a = some (.frz o u)
  zk : ∀ a, G.Z a → H' a = H a
  zm : ∀ a, G.Z a → G'.Z a
  zn : ∀ a, G'.Z a → G.Z a ∨ B a = none
  pre : ∀ (n : Nat) (a : Addr), G.ids[n]? = some a → G'.ids[n]? = some a
  idn : ∀ a ∈ G'.ids, a ∈ G.ids ∨ B a = none
  trk : ∀ a, H a ≠ none → H' a ≠ none
  fx : ∀ a o, Fx o → H a = some o → H' a = some o
  tt : G'.T = G.T

theorem Ext.refl (B : Hp) (G : Gh) (H : Hp) : Ext B G H G H :=
  ⟨fun _ _ _ h _ _ => h, fun _ _ h => h, fun _ _ _ h => h, fun _ _ => rfl, fun _ h => h, fun _ h => .inl h, fun _ _ h => h, fun _ h => .inl h, fun _ h => h, fun _ _ _ h => h, rfl⟩
theorem Ext.trans {B : Hp} {G G1 G2 : Gh} {H H1 H2 : Hp} (a : Ext B G H G1 H1) (b : Ext B G1 H1 G2 H2) : Ext B G H G2 H2 where
  keep := fun c o hb h hn ht => by
    refine b.keep c o hb (a.keep c o hb h hn ht) (fun hm => ?_) ht
    rcases a.idn c hm with q | q
    · exact hn q
    · exact hb q
  tups := fun c xs h => b.tups c xs (a.tups c xs h)
  frzs := fun c o u h => b.frzs c o u (a.frzs c o u h)
  zk := fun c h => (b.zk c (a.zm c h)).trans (a.zk c h)
  zm := fun c h => b.zm c (a.zm c h)
  zn := fun c h => (b.zn c h).elim (a.zn c) .inr
  pre := fun n c h => b.pre n c (a.pre n c h)
  idn := fun c h => (b.idn c h).elim (a.idn c) .inr
  trk := fun c h => b.trk c (a.trk c h)
  fx := fun c o f h => b.fx c o f (a.fx c o f h)
  tt := b.tt.trans a.tt
/-- less is to be kept -/
theorem Ext.weak {B B' : Hp} {G G' : Gh} {H H' : Hp} (a : Ext B G H G' H') (h : ∀ c, B' c ≠ none → B c ≠ none) : Ext B' G H G' H' where
  keep := fun c o hb => a.keep c o (h c hb)
  tups := a.tups
  frzs := a.frzs
  zk := a.zk
  zm := a.zm
  zn := fun c q => (a.zn c q).imp id fun z => Classical.byContradiction fun n => h c n z
  pre := a.pre
  idn := fun c q => (a.idn c q).imp id fun z => Classical.byContradiction fun n => h c n z
  trk := a.trk
  fx := a.fx
  tt := a.tt
/-- two steps of an expression -/
theorem Ext.seq {G G1 G2 : Gh} {H H1 H2 : Hp} (a : Ext H G H G1 H1) (b : Ext H1 G1 H1 G2 H2) : Ext H G H G2 H2 := a.trans (b.weak a.trk)

theorem SqT.ext {K : PySem.W.Frag} {B : Hp} {G G' : Gh} {H H' : Hp} (e : Ext B G H G' H') {a : Addr} {xs : List V} (h : SqT K H a xs) : SqT K H' a xs := by
  rcases h with (h | ⟨o, h⟩) | h
  · exact .inl (.inl (e.tups _ _ h))
  · exact .inl (.inr ⟨o, e.frzs _ _ _ h⟩)
  · exact .inr h
theorem FzL.ext {B : Hp} {G G' : Gh} {H H' : Hp} (e : Ext B G H G' H') {a : Addr} {xs : List V} (h : FzL G H a xs) : FzL G' H' a xs := ⟨e.zm _ h.1, (e.zk _ h.1).trans h.2⟩
theorem ScL.ext {K : PySem.W.Frag} {B : Hp} {G G' : Gh} {H H' : Hp} (e : Ext B G H G' H') {a : Addr} {xs : List V} (h : ScL K H a xs) : ScL K H' a xs := h.imp (fun ⟨o, q⟩ => ⟨o, e.frzs _ _ _ q⟩) id
theorem ScL.sq {K : PySem.W.Frag} {H : Hp} {a : Addr} {xs : List V} (h : ScL K H a xs) : SqL K H a xs := by
  rcases h with ⟨o, h⟩ | h
  · exact .inl (.inr ⟨o, h⟩)
  · rcases h with (h | ⟨o, h⟩) | h
    · cases h
    · cases h
    · exact .inr h
mutual
theorem Rl0.ext {K : PySem.W.Frag} {B : Hp} {G G' : Gh} {H H' : Hp} (e : Ext B G H G' H') : ∀ {v : V} {d : D}, Rl0 K G H v d → Rl0 K G' H' v d
  | _, _, .non => .non
  | _, _, .bl b => .bl b
  | _, _, .int i => .int i
  | _, _, .str x => .str x
  | _, _, .tup h r => .tup (SqT.ext e h) (Rls.ext e r)
  | _, _, .lst h r => .lst (FzL.ext e h) (Rls.ext e r)
  | _, _, .scr h r => .scr (ScL.ext e h) (Rls.ext e r)
  | _, _, .ref h => .ref (e.pre _ _ h)
  | _, _, .exn0 h q => .exn0 (e.fx _ _ fx_exk h) q
  | _, _, .exn1 h q h2 r => .exn1 (e.fx _ _ fx_exk h) q (e.fx _ _ trivial h2) (Rl0.ext e r)
  | _, _, .dct z h => .dct (e.zm _ z) ((e.zk _ z).trans h)
  | _, _, .kd z h n r q => .kd (e.zm _ z) ((e.zk _ z).trans h) n (Rls.ext e r) (Rls.ext e q)
theorem Rls.ext {K : PySem.W.Frag} {B : Hp} {G G' : Gh} {H H' : Hp} (e : Ext B G H G' H') : ∀ {vs : List V} {ds : List D}, Rls K G H vs ds → Rls K G' H' vs ds
  | _, _, .nil => .nil
  | _, _, .cons h r => .cons (Rl0.ext e h) (Rls.ext e r)
end
theorem Rl.ext {K : PySem.W.Frag} {G G' : Gh} {H H' : Hp} (e : Ext H G H G' H') {v : V} {d : D} (h : Rl K G H v d) : Rl K G' H' v d := by
  have no : ∀ {a : Addr} {o : HO}, (∀ ps, o ≠ .tbl ps) → H a = some o → ¬ G.Z a → a ∉ G.ids → H' a = some o ∧ ¬ G'.Z a ∧ a ∉ G'.ids := fun {a o} ht h1 h2 h3 => by
    have hb : H a ≠ none := by rw [h1]; simp
    exact ⟨e.keep a _ hb h1 h3 ht, fun z => (e.zn a z).elim h2 hb, fun z => (e.idn a z).elim h3 hb⟩
  cases h with
  | base h => exact .base (h.ext e)
  | own h1 h2 h3 r =>
    obtain ⟨a1, a2, a3⟩ := no (o := .lst _) (fun _ => nofun) h1 h2 h3
    exact .own a1 a2 a3 (r.ext e)
  | bor h1 h2 h3 r =>
    obtain ⟨a1, a2, a3⟩ := no (o := .lst _) (fun _ => nofun) h1 h2 h3
    exact .bor a1 a2 a3 (r.ext e)
  | okd h1 h2 h3 n r q =>
    obtain ⟨a1, a2, a3⟩ := no kd_tbl h1 h2 h3
    exact .okd a1 a2 a3 n (r.ext e) (q.ext e)
  | lam h1 h2 h3 => exact .lam (by rw [e.tt]; exact h1) (e.fx _ _ fx_code h2) fun i d z => let ⟨v, q1, q2⟩ := h3 i d z; ⟨v, q1, q2.ext e⟩
theorem Rls.length {K : PySem.W.Frag} {G : Gh} {H : Hp} : ∀ {vs : List V} {ds : List D}, Rls K G H vs ds → vs.length = ds.length
  | _, _, .nil => rfl
  | _, _, .cons _ r => by rw [List.length_cons, List.length_cons, r.length]
theorem Rls.append {K : PySem.W.Frag} {G : Gh} {H : Hp} : ∀ {vs ws : List V} {ds es : List D}, Rls K G H vs ds → Rls K G H ws es → Rls K G H (vs ++ ws) (ds ++ es)
  | _, _, _, _, .nil, s => s
  | _, _, _, _, .cons h r, s => .cons h (r.append s)
theorem Rls.drop {K : PySem.W.Frag} {G : Gh} {H : Hp} : ∀ {vs : List V} {ds : List D} (n : Nat), Rls K G H vs ds → Rls K G H (vs.drop n) (ds.drop n)
  | _, _, 0, r => r
  | _, _, _ + 1, .nil => .nil
  | _, _, n + 1, .cons _ r => Rls.drop n r
theorem Rls.take {K : PySem.W.Frag} {G : Gh} {H : Hp} : ∀ {vs : List V} {ds : List D} (n : Nat), Rls K G H vs ds → Rls K G H (vs.take n) (ds.take n)
  | _, _, 0, _ => .nil
  | _, _, _ + 1, .nil => .nil
  | _, _, n + 1, .cons h r => .cons h (Rls.take n r)
theorem Rls.get {K : PySem.W.Frag} {G : Gh} {H : Hp} : ∀ {vs : List V} {ds : List D} {i : Nat} {d : D}, Rls K G H vs ds → ds[i]? = some d → ∃ v, vs[i]? = some v ∧ Rl0 K G H v d
  | _, _, _, _, .nil, e => by simp at e
  | _, _, 0, _, .cons h _, e => by simp at e; subst e; exact ⟨_, rfl, h⟩
  | _, _, i + 1, d, .cons _ r, e => by
    obtain ⟨v, h1, h2⟩ := Rls.get (i := i) (d := d) r (by simpa using e)
    exact ⟨v, by simpa using h1, h2⟩
theorem Rls.set {K : PySem.W.Frag} {G : Gh} {H : Hp} {v : V} {d : D} (h : Rl0 K G H v d) : ∀ {vs : List V} {ds : List D} (i : Nat), Rls K G H vs ds → Rls K G H (vs.set i v) (ds.set i d)
  | _, _, _, .nil => .nil
  | _, _, 0, .cons _ r => .cons h r
  | _, _, i + 1, .cons q r => .cons q (Rls.set h i r)
theorem Rls.reverse {K : PySem.W.Frag} {G : Gh} {H : Hp} : ∀ {vs : List V} {ds : List D}, Rls K G H vs ds → Rls K G H vs.reverse ds.reverse
  | _, _, .nil => .nil
  | _, _, .cons h r => by
    rw [List.reverse_cons, List.reverse_cons]
    exact r.reverse.append (.cons h .nil)
theorem Rls.snoc {K : PySem.W.Frag} {G : Gh} {H : Hp} {vs : List V} {ds : List D} {v : V} {d : D} (r : Rls K G H vs ds) (h : Rl0 K G H v d) : Rls K G H (vs ++ [v]) (ds ++ [d]) := r.append (.cons h .nil)

def Kvs (K : PySem.W.Frag) (G : Gh) (H : Hp) : List (Key × V) → List (Key × D) → Prop := Paired fun p q => p.1 = q.1 ∧ Rl0 K G H p.2 q.2
def ObjR (K : PySem.W.Frag) (G : Gh) (H : Hp) (a : Addr) : MO → Prop
  | .lst ds => ∃ xs, H a = some (.lst xs) ∧ Rls K G H xs ds
  | .dk kvs => ∃ ks, H a = some (.dK ks) ∧ Kvs K G H ks kvs ∧ (kvs.map (·.1)).Nodup
  | .ins _ _ => False
structure RelS (K : PySem.W.Frag) (G : Gh) (H : Hp) (S : Store) : Prop where
  zt : ∀ a, G.Z a → H a ≠ none
  zi : ∀ a, G.Z a → a ∉ G.ids
  nd : G.ids.Nodup
  it : ∀ a ∈ G.ids, ∃ o, H a = some o ∧ Mut (some o)
  len : G.ids.length = S.length
  obj : ∀ (n : Nat) (a : Addr) (o : MO), G.ids[n]? = some a → S[n]? = some o → ObjR K G H a o
  tabs : LamX.Tabs G.T.T H
/-- a thing of the store is a list or a dict -/
theorem RelS.idObj {K : PySem.W.Frag} {G : Gh} {H : Hp} {S : Store} (R : RelS K G H S) {a : Addr} (ha : a ∈ G.ids) : (∃ xs, H a = some (.lst xs)) ∨ ∃ ks, H a = some (.dK ks) := by
  obtain ⟨n, hn⟩ := List.mem_iff_getElem?.mp ha
  have hl : n < S.length := by rw [← R.len]; exact (List.getElem?_eq_some_iff.mp hn).1
  have q := R.obj n a _ hn (List.getElem?_eq_getElem hl)
  cases e : S[n] with
  | lst ds => rw [e] at q; obtain ⟨xs, h, _⟩ := q; exact .inl ⟨xs, h⟩
  | dk ks => rw [e] at q; obtain ⟨xs, h, _⟩ := q; exact .inr ⟨xs, h⟩
  | ins _ _ => rw [e] at q; exact q.elim
/-- the tables stand where a list or a dict is changed -/
theorem tabs_keep {T : List (Addr × Str)} {H H' : Hp} (t : LamX.Tabs T H) (h : ∀ b o, H b = some o → (Fx o ∨ ∃ ps, o = .tbl ps) → H' b = some o) : LamX.Tabs T H' := fun p hp => by
  obtain ⟨ps, h1, h2, h3⟩ := t p hp
  exact ⟨ps, h _ _ h1 (.inr ⟨ps, rfl⟩), h2, fun pos cv hc => let ⟨c, e1, e2⟩ := h3 pos cv hc; ⟨c, e1, h _ _ e2 (.inl fx_code)⟩⟩
theorem upd_fx {H : Hp} {p : Addr} {o u : HO} (hp : H p = some u) (hu : ¬ Fx u) {b : Addr} {w : HO} (f : Fx w) (h : H b = some w) : upd H p o b = some w := by
  rw [upd_ne (fun z => by rw [z, hp] at h; cases h; exact hu f)]
  exact h
theorem upd_tab {H : Hp} {p : Addr} {o u : HO} (hp : H p = some u) (hu : ¬ Fx u) (ht : ∀ ps, u ≠ .tbl ps) {b : Addr} {w : HO} (h : H b = some w) (f : Fx w ∨ ∃ ps, w = .tbl ps) : upd H p o b = some w := by
  rw [upd_ne (fun z => by
    rw [z, hp] at h
    cases h
    rcases f with f | ⟨ps, f⟩
    · exact hu f
    · exact ht ps f)]
  exact h
theorem Paired.imp {α β : Type} {F F' : α → β → Prop} : ∀ {l : List α} {m : List β}, Paired F l m → (∀ a b, F a b → F' a b) → Paired F' l m
  | _, _, .nil, _ => .nil
  | _, _, .cons r t, f => .cons (f _ _ r) (Paired.imp t f)
theorem Kvs.ext {K : PySem.W.Frag} {B : Hp} {G G' : Gh} {H H' : Hp} (e : Ext B G H G' H') {ks : List (Key × V)} {kvs : List (Key × D)} (h : Kvs K G H ks kvs) : Kvs K G' H' ks kvs :=
  Paired.imp h fun _ _ q => ⟨q.1, q.2.ext e⟩
theorem ObjR.ext {K : PySem.W.Frag} {B : Hp} {G G' : Gh} {H H' : Hp} (e : Ext B G H G' H') {a : Addr} {o : MO} (ha : H' a = H a) (h : ObjR K G H a o) : ObjR K G' H' a o := by
  cases o with
  | lst ds => obtain ⟨xs, h1, h2⟩ := h; exact ⟨xs, ha.trans h1, h2.ext e⟩
  | dk kvs => obtain ⟨ks, h1, h2, h3⟩ := h; exact ⟨ks, ha.trans h1, h2.ext e, h3⟩
  | ins _ _ => exact h
/-- G with these lists put to those that nobody changes any more -/
def Gh.fz (G : Gh) (a : Addr) : Gh := { G with Z := fun b => G.Z b ∨ b = a }
/-- all that stood stands, the store as it was -/
theorem Ext.same {G : Gh} {H H' : Hp} (h : ∀ a o, H a = some o → H' a = some o) (zt : ∀ a, G.Z a → H a ≠ none) : Ext H G H G H' where
  keep := fun a o _ e _ _ => h a o e
  tups := fun a xs e => h a _ e
  frzs := fun a o u e => h a _ e
  zk := fun a z => by
    cases q : H a with
    | none => exact absurd q (zt a z)
    | some o => exact h a o q
  zm := fun _ z => z
  zn := fun _ z => .inl z
  pre := fun _ _ e => e
  idn := fun _ e => .inl e
  trk := fun a n => by
    cases q : H a with
    | none => exact absurd q n
    | some o => rw [h a o q]; simp
  fx := fun a o _ e => h a o e
  tt := rfl
theorem upd_same_of {H : Hp} {p : Addr} {o : HO} (hp : H p = none) : ∀ a u, H a = some u → upd H p o a = some u := fun a u e => by
  rw [upd_ne (ne_of_none e hp)]; exact e
theorem RelS.same {K : PySem.W.Frag} {G : Gh} {H H' : Hp} {S : Store} (R : RelS K G H S) (h : ∀ a o, H a = some o → H' a = some o) : RelS K G H' S where
  zt := fun a z => (Ext.same h R.zt).trk a (R.zt a z)
  zi := R.zi
  nd := R.nd
  it := fun a m => let ⟨o, e, q⟩ := R.it a m; ⟨o, h a o e, q⟩
  len := R.len
  obj := fun n a o e1 e2 => by
    obtain ⟨u, e, _⟩ := R.it a (List.mem_of_getElem? e1)
    exact (R.obj n a o e1 e2).ext (Ext.same h R.zt) ((h a u e).trans e.symm)
  tabs := tabs_keep R.tabs fun b o e _ => h b o e
/-- a new object -/
theorem Ext.new {K : PySem.W.Frag} {G : Gh} {H : Hp} {S : Store} (R : RelS K G H S) {p : Addr} {o : HO} (hp : H p = none) : Ext H G H G (upd H p o) := Ext.same (upd_same_of hp) R.zt
theorem RelS.new {K : PySem.W.Frag} {G : Gh} {H : Hp} {S : Store} (R : RelS K G H S) {p : Addr} {o : HO} (hp : H p = none) : RelS K G (upd H p o) S := R.same (upd_same_of hp)
/-- a list that its holder alone has is changed no more -/
theorem Ext.fz {B : Hp} {G : Gh} {H : Hp} {a : Addr} (hB : B a = none) : Ext B G H (G.fz a) H where
  keep := fun _ _ _ e _ _ => e
  tups := fun _ _ e => e
  frzs := fun _ _ _ e => e
  zk := fun _ _ => rfl
  zm := fun _ z => .inl z
  zn := fun b z => z.imp id fun e => by rw [e]; exact hB
  pre := fun _ _ e => e
  idn := fun _ e => .inl e
  trk := fun _ n => n
  fx := fun _ _ _ e => e
  tt := rfl
theorem RelS.fz {K : PySem.W.Frag} {G : Gh} {H : Hp} {S : Store} (R : RelS K G H S) {a : Addr} (h1 : H a ≠ none) (h3 : a ∉ G.ids) : RelS K (G.fz a) H S where
  zt := fun b z => z.elim (R.zt b) fun e => by rw [e]; exact h1
  zi := fun b z => z.elim (R.zi b) fun e => by rw [e]; exact h3
  nd := R.nd
  it := R.it
  len := R.len
  obj := fun n b o e1 e2 => by
    refine (R.obj n b o e1 e2).ext (Ext.fz (B := fun _ => none) rfl) rfl
  tabs := R.tabs

structure RelE (K : PySem.W.Frag) (Hin : Hp) (G : Gh) (H : Hp) (σ : St) (ρ : Env) : Prop where
  len : σ.length = ρ.length
  slot : ∀ (i : Nat) (d : D), ρ[i]? = some (some d) → ∃ v, σ[i]? = some (some v) ∧ Rl K G H v d ∧ (d.isOw = true → ∃ a, v = .ref a ∧ Hin a = none) ∧ (∀ xs, d ≠ .bor xs)
  sep : ∀ (i j : Nat) (a : Addr) (d e : D), i ≠ j → d.isOw = true → e.isOw = true → ρ[i]? = some (some d) → ρ[j]? = some (some e) → σ[i]? = some (some (.ref a)) → σ[j]? ≠ some (some (.ref a))
  hin : ∀ a, Hin a ≠ none → H a ≠ none
theorem RelE.ext {K : PySem.W.Frag} {Hin : Hp} {G G' : Gh} {H H' : Hp} {σ : St} {ρ : Env} (E : RelE K Hin G H σ ρ) (e : Ext H G H G' H') : RelE K Hin G' H' σ ρ where
  len := E.len
  slot := fun i d h => let ⟨v, h1, h2, h3⟩ := E.slot i d h; ⟨v, h1, h2.ext e, h3⟩
  sep := E.sep
  hin := fun a h => e.trk a (E.hin a h)

/-- an error in flight: its class by its name, its own dict's field -/
def XRel (K : PySem.W.Frag) (G : Gh) (H : Hp) (x : Exn) (cls : Value) (dd : Option Addr) : Prop := ∃ C, PySem.W.nsIn K mainGlobals x.cls = some (some (.ref C)) ∧ cls = .ref C ∧ match x.fld with
  | none => dd = none
  | some (f, d) => ∃ dx v, dd = some dx ∧ H dx = some (.xd [(f, v)]) ∧ Rl0 K G H v d
/-- a value, an own list being younger than H0 -/
def RlF (K : PySem.W.Frag) (H0 : Hp) (G : Gh) (H : Hp) (v : V) (d : D) : Prop := Rl K G H v d ∧ (d.isOw = true → ∃ a, v = .ref a ∧ H0 a = none)
abbrev Rel (α β : Type) := Hp → Gh → Hp → β → α → Prop
def RelMono {α β : Type} (Re : Rel α β) : Prop := ∀ H0 H1 G H v d, (∀ a, H0 a ≠ none → H1 a ≠ none) → Re H1 G H v d → Re H0 G H v d
def rEq (α : Type) : Rel α α := fun _ _ _ v d => v = d
def rVal (K : PySem.W.Frag) : Rel D V := RlF K
def rVals (K : PySem.W.Frag) : Rel (List D) (List V) := fun _ G H vs ds => Rls K G H vs ds
theorem rEq.mono {α : Type} : RelMono (rEq α) := fun _ _ _ _ _ _ _ h => h
theorem rVal.mono {K : PySem.W.Frag} : RelMono (rVal K) := fun H0 H1 G H v d k h => ⟨h.1, fun e => by
  obtain ⟨a, h1, h2⟩ := h.2 e
  exact ⟨a, h1, Classical.byContradiction fun n => k a n h2⟩⟩
theorem rVals.mono {K : PySem.W.Frag} : RelMono (rVals K) := fun _ _ _ _ _ _ _ h => h

def Post (K : PySem.W.Frag) (W : WX) (σ : St) {α β : Type} (Re : Rel α β) (G : Gh) (H : Hp) (r : R α) (Q : β → Hp → Prop) : Prop := match r with
  | .bad => False
  | .ok d S' => ∀ v G' H', Ext H G H G' H' → Re H G' H' v d → RelS K G' H' S' → Q v H'
  | .exc x S' => ∀ cls dd G' H', Ext H G H G' H' → XRel K G' H' x cls dd → RelS K G' H' S' → W cls dd σ H'
theorem Post.from {K : PySem.W.Frag} {W : WX} {σ : St} {α β : Type} {Re : Rel α β} (mo : RelMono Re) {G G1 : Gh} {H H1 : Hp} {r : R α} {Q : β → Hp → Prop} (e : Ext H G H G1 H1) (h : Post K W σ Re G H r Q) : Post K W σ Re G1 H1 r Q := by
  cases r with
  | bad => exact h
  | ok d S' => exact fun v G' H' e' q r => h v G' H' (e.seq e') (mo _ _ _ _ _ _ e.trk q) r
  | exc x S' => exact fun cls dd G' H' e' q r => h cls dd G' H' (e.seq e') q r
/-- the state that an expression goes on from -/
structure At (K : PySem.W.Frag) (Hin : Hp) (G : Gh) (H : Hp) (σ : St) (ρ : Env) (S : Store) : Prop where
  env : RelE K Hin G H σ ρ
  st : RelS K G H S
/-- the reading of a piece by what it means -/
def tM (K : PySem.W.Frag) (W : WX) {α β : Type} (Re : Rel α β) (m : Env → M α) : St → Hp → (β → Hp → Prop) → Prop := fun σ H Q =>
  ∃ G ρ S Hin, At K Hin G H σ ρ S ∧ Post K W σ Re G H (m ρ S) Q
/-- one piece, then the rest -/
theorem tM_bnd {K : PySem.W.Frag} {W : WX} {σ : St} {α β γ δ : Type} {Ra : Rel α β} {Rc : Rel γ δ} (mo : RelMono Rc) {Hin : Hp} {G : Gh} {H : Hp} {ρ : Env} {S : Store} {m : Env → M α} {f : α → M γ} {Q : δ → Hp → Prop}
    (A : At K Hin G H σ ρ S) (h : Post K W σ Rc G H (M.bnd (m ρ) f S) Q) {Q' : β → Hp → Prop}
    (k : ∀ v d G1 H1 S1, Ext H G H G1 H1 → At K Hin G1 H1 σ ρ S1 → Ra H G1 H1 v d → Post K W σ Rc G1 H1 (f d S1) Q → Q' v H1) : tM K W Ra m σ H Q' := by
  refine ⟨G, ρ, S, Hin, A, ?_⟩
  unfold M.bnd at h
  cases e : m ρ S with
  | bad => rw [e] at h; exact h
  | exc x S' => rw [e] at h; exact h
  | ok d S' =>
    rw [e] at h
    exact fun v G' H' x q r => k v d G' H' S' x ⟨A.env.ext x, r⟩ q (Post.from mo x h)
/-- an end -/
theorem Post.ret {K : PySem.W.Frag} {W : WX} {σ : St} {α β : Type} {Re : Rel α β} {G : Gh} {H : Hp} {S : Store} {d : α} {Q : β → Hp → Prop} (h : Post K W σ Re G H (M.ret d S) Q) {v : β} (r : Re H G H v d) (s : RelS K G H S) : Q v H :=
  h v G H (Ext.refl _ _ _) r s
theorem Post.ofO {K : PySem.W.Frag} {W : WX} {σ : St} {α β : Type} {Re : Rel α β} {G : Gh} {H : Hp} {S : Store} {o : Option α} {Q : β → Hp → Prop} (h : Post K W σ Re G H (M.ofO o S) Q) : ∃ d, o = some d ∧ Post K W σ Re G H (.ok d S) Q := by
  cases o with
  | none => exact h.elim
  | some d => exact ⟨d, rfl, h⟩
theorem PE.imp {X : Cx} {e : Expr} {t t' : TE} (h : PE X e t) (k : ∀ σ H Q, t' σ H Q → t σ H Q) : PE X e t' := ⟨fun pins s σ H Q I q => h.run pins s σ H Q I (k σ H Q q)⟩
theorem PT.imp {X : Cx} {e : Expr} {t t' : TT} (h : PT X e t) (k : ∀ σ H Q, t' σ H Q → t σ H Q) : PT X e t' := ⟨fun pins s σ H Q I q => h.run pins s σ H Q I (k σ H Q q)⟩
theorem PW.imp {X : Cx} {e : Expr} {t t' : TT} (h : PW X e t) (k : ∀ σ H Q, t' σ H Q → t σ H Q) : PW X e t' := ⟨fun wh pins s σ H Q I q => h.run wh pins s σ H Q I (k σ H Q q)⟩
theorem PA.imp {X : Cx} {es : List Expr} {t t' : TA} (h : PA X es t) (k : ∀ σ H Q, t' σ H Q → t σ H Q) : PA X es t' := ⟨fun pos pins s σ H Q I q => h.run pos pins s σ H Q I (k σ H Q q)⟩
theorem PO.imp {X : Cx} {e : Option Expr} {t t' : TO} (h : PO X e t) (k : ∀ σ H Q, t' σ H Q → t σ H Q) : PO X e t' := ⟨fun pins s σ H Q I q => h.run pins s σ H Q I (k σ H Q q)⟩
theorem PS.imp {X : Cx} {st : Stmt} {t t' : TS} (h : PS X st t) (k : ∀ D σ H, t' D σ H → t D σ H) : PS X st t' := ⟨fun pins s σ H D I q => h.run pins s σ H D I (k D σ H q)⟩
theorem PSs.imp {X : Cx} {st : List Stmt} {t t' : TS} (h : PSs X st t) (k : ∀ D σ H, t' D σ H → t D σ H) : PSs X st t' := ⟨fun pins s σ H D I q => h.run pins s σ H D I (k D σ H q)⟩
theorem OpR.imp {X : Cx} {f : Value → Value → Sem Value} {r r' : R2} (h : OpR X f r) (k : ∀ x y H Q, r' x y H Q → r x y H Q) : OpR X f r' := fun pins s σ H x y v u Q I rx ry q => h pins s σ H x y v u Q I rx ry (k _ _ _ _ q)
end WB
namespace WB
open PySem L2

section
variable {K : PySem.W.Frag} {G : Gh} {H : Hp} {v : V} {d : D}
theorem Rl.toInt {i : Int} (h : Rl K G H v (.int i)) : v = .int i := by cases h with | base h => cases h; rfl
theorem Rl.toBl {b : Bool} (h : Rl K G H v (.bl b)) : v = .bl b := by cases h with | base h => cases h; rfl
theorem Rl.toStr {x : Str} (h : Rl K G H v (.str x)) : v = .str x := by cases h with | base h => cases h; rfl
theorem Rl.toNon (h : Rl K G H v .non) : v = .non := by cases h with | base h => cases h; rfl
theorem Rl.toTup {ds : List D} (h : Rl K G H v (.tup ds)) : ∃ a xs, v = .ref a ∧ SqT K H a xs ∧ Rls K G H xs ds := by
  cases h with
  | base h => cases h with | tup h r => exact ⟨_, _, rfl, h, r⟩
theorem Rl.toList {ds : List D} (h : Rl K G H v d) (e : d.list? = some ds) : ∃ a xs, v = .ref a ∧ H a = some (.lst xs) ∧ Rls K G H xs ds := by
  cases d <;> simp only [D.list?, Option.some.injEq, reduceCtorEq] at e
  · subst e
    cases h with
    | base h => cases h with | lst h r => exact ⟨_, _, rfl, h.2, r⟩
  · subst e
    cases h with
    | base h => cases h
    | own h _ _ r => exact ⟨_, _, rfl, h, r⟩
  · subst e
    cases h with
    | base h => cases h
    | bor h _ _ r => exact ⟨_, _, rfl, h, r⟩
theorem Rl.toSeq {ds : List D} (h : Rl K G H v d) (e : d.seq? = some ds) : ∃ a xs, v = .ref a ∧ (SqL K H a xs ∨ SqT K H a xs) ∧ Rls K G H xs ds := by
  cases hl : d.list? with
  | some xs =>
    have : xs = ds := by cases d <;> simp_all [D.list?, D.seq?]
    subst this
    obtain ⟨a, ys, h1, h2, h3⟩ := h.toList hl
    exact ⟨a, ys, h1, .inl (SqL.of h2), h3⟩
  | none =>
    cases d <;> simp only [D.list?, D.seq?, Option.some.injEq, reduceCtorEq] at e hl
    subst e
    obtain ⟨a, ys, h1, h2, h3⟩ := h.toTup
    exact ⟨a, ys, h1, .inr h2, h3⟩
theorem RlF.base {H0 : Hp} (h : Rl0 K G H v d) : RlF K H0 G H v d := ⟨.base h, fun e => by cases h <;> cases e⟩
theorem Rl.hand {d' : D} (h : Rl K G H v d) (e : d.hand = some d') (no : ∀ xs, d ≠ .own xs) : Rl0 K G H v d' := by
  cases h with
  | base h => cases h <;> simp only [D.hand, Option.some.injEq] at e <;> subst e <;> constructor <;> assumption
  | own => exact absurd rfl (no _)
  | bor => simp [D.hand] at e
  | okd => simp [D.hand] at e
  | lam => simp [D.hand] at e
end

def rP2 (K : PySem.W.Frag) (p : D → D → Option D) : R2 := fun x y H Q => ∃ G S d1 d2 d, Rl K G H x d1 ∧ Rl K G H y d2 ∧ RelS K G H S ∧ p d1 d2 = some d ∧
  ∀ v G' H', Ext H G H G' H' → RlF K H G' H' v d → RelS K G' H' S → Q v H'
abbrev tE (K : PySem.W.Frag) (W : WX) (m : Env → M D) : TE := tM K W (rVal K) m
abbrev tT (K : PySem.W.Frag) (W : WX) (m : Env → M Bool) : TT := tM K W (rEq Bool) m
abbrev tA (K : PySem.W.Frag) (W : WX) (m : Env → M (List D)) : TA := tM K W (rVals K) m
abbrev tOI (K : PySem.W.Frag) (W : WX) (m : Env → M (Option Int)) : TO := tM K W (rEq (Option Int)) m
theorem s_op2 {X : Cx} {W : WX} {a b e : Expr} {m1 m2 : Env → M D} {p : D → D → Option D} (he : ∀ ta tb, PE X a ta → PE X b tb → PE X e (tOp (rP2 X.K p) ta tb)) (ha : PE X a (tE X.K W m1)) (hb : PE X b (tE X.K W m2)) :
    PE X e (tE X.K W fun ρ => M.bnd (m1 ρ) fun x => M.bnd (m2 ρ) fun y => M.ofO (p x y)) := by
  refine PE.imp (he _ _ ha hb) fun σ H Q ⟨G, ρ, S, Hin, A, h⟩ => ?_
  refine tM_bnd rVal.mono A h fun v d G1 H1 S1 x1 A1 r1 h1 => ?_
  refine tM_bnd rVal.mono A1 h1 fun u e G2 H2 S2 x2 A2 r2 h2 => ?_
  obtain ⟨z, hz, h3⟩ := Post.ofO h2
  exact ⟨G2, S2, d, e, z, r1.1.ext x2, r2.1, A2.st, hz, h3⟩

section
variable {K : PySem.W.Frag} {G : Gh} {H : Hp} {S : Store} {Q : VK}
/-- a plain end -/
theorem fin0 {v : V} {d : D} (k : ∀ v G' H', Ext H G H G' H' → RlF K H G' H' v d → RelS K G' H' S → Q v H') (r : Rl0 K G H v d) (R : RelS K G H S) : Q v H := k v G H (Ext.refl _ _ _) (RlF.base r) R
/-- a new tuple -/
theorem finT {xs : List V} {ds : List D} (k : ∀ v G' H', Ext H G H G' H' → RlF K H G' H' v (.tup ds) → RelS K G' H' S → Q v H') (r : Rls K G H xs ds) (R : RelS K G H S) {p : Addr} (hp : H p = none) : Q (.ref p) (upd H p (.tup xs)) :=
  k _ G _ (Ext.new R hp) (RlF.base (.tup (SqT.of upd_same) (r.ext (Ext.new R hp)))) (R.new hp)
theorem finL {xs : List V} {ds : List D} (k : ∀ v G' H', Ext H G H G' H' → RlF K H G' H' v (.own ds) → RelS K G' H' S → Q v H') (r : Rls K G H xs ds) (R : RelS K G H S) {p : Addr} (hp : H p = none) : Q (.ref p) (upd H p (.lst xs)) := by
  refine k _ G _ (Ext.new R hp) ⟨.own upd_same (fun z => R.zt p z hp) (fun z => ?_) (r.ext (Ext.new R hp)), fun _ => ⟨p, rfl, hp⟩⟩ (R.new hp)
  obtain ⟨o, e, _⟩ := R.it p z
  rw [hp] at e; cases e
end

section
variable {X : Cx}
theorem op2_of {f : Value → Value → Sem Value} {p : D → D → Option D} (h : ∀ (pins : List (Addr × Obj)) (s : Shared) (σ : L2.St) (H : Hp) (x y : V) (v u : Value) (Q : VK) (G : Gh) (S : Store) (d1 d2 d : D), Inv X pins σ H s → RelV x v → RelV y u →
    Rl X.K G H x d1 → Rl X.K G H y d2 → RelS X.K G H S → p d1 d2 = some d → (∀ v G' H', Ext H G H G' H' → RlF X.K H G' H' v d → RelS X.K G' H' S → Q v H') → wpAny (model X.prog X.w) X.A (f v u) (EP X pins σ Q) X.xe s) : OpR X f (rP2 X.K p) :=
  fun pins s σ H x y v u Q I rx ry ⟨G, S, d1, d2, d, r1, r2, R, hp, k⟩ => h pins s σ H x y v u Q G S d1 d2 d I rx ry r1 r2 R hp k
theorem Rls.nil_iff {K : PySem.W.Frag} {G : Gh} {H : Hp} {xs : List V} {ds : List D} (r : Rls K G H xs ds) : xs = [] ↔ ds = [] := by cases r <;> simp
theorem o_add : OpR X (binaryOp .Add) (rP2 X.K (binD .add)) := op2_of fun pins s σ H x y v u Q G S d1 d2 d I rx ry r1 r2 R hp k => by
  have lists : ∀ xs ys, d1.list? = some xs → d2.list? = some ys → (if xs.length + ys.length ≤ sizeLine then some (D.own (xs ++ ys)) else none) = some d → wpAny (model X.prog X.w) X.A (binaryOp .Add v u) (EP X pins σ Q) X.xe s := by
    intro xs ys e1 e2 hp
    split at hp
    · rename_i hz
      cases hp
      obtain ⟨a, vs, rfl, ha, ra⟩ := r1.toList e1
      obtain ⟨b, ws, rfl, hb, rb⟩ := r2.toList e2
      exact op_cat pins s σ H _ _ v u Q I rx ry ⟨a, b, vs, ws, rfl, rfl, ha, hb, by rw [ra.length, rb.length]; exact hz, fun p hp => finL k (ra.append rb) R hp⟩
    · cases hp
  cases d1 <;> cases d2 <;> simp only [binD, D.list?, reduceCtorEq] at hp <;> first | (cases hp; done) | exact lists _ _ rfl rfl hp | skip
  · cases hp
    rw [r1.toInt] at rx
    rw [r2.toInt] at ry
    exact op_add pins s σ H _ _ v u Q I rx ry ⟨_, _, rfl, rfl, fin0 k (.int _) R⟩
  · split at hp
    · rename_i hz
      cases hp
      rw [r1.toStr] at rx
      rw [r2.toStr] at ry
      exact op_add_str pins s σ H _ _ v u Q I rx ry ⟨_, _, rfl, rfl, hz, fin0 k (.str _) R⟩
    · cases hp
  · split at hp
    · rename_i hz
      cases hp
      obtain ⟨a, vs, rfl, ha, ra⟩ := r1.toTup
      obtain ⟨b, ws, rfl, hb, rb⟩ := r2.toTup
      refine op_catA pins s σ H _ _ v u Q I rx ry ⟨a, b, vs, ws, rfl, rfl, ha, hb, by rw [ra.length, rb.length]; exact hz, fun z => ?_, fun _ z => ?_, fun _ _ p hp => finT k (ra.append rb) R hp⟩
      · rw [ra.nil_iff] at z
        subst z
        exact fin0 k (.tup hb rb) R
      · rw [rb.nil_iff] at z
        subst z
        rw [List.append_nil] at k
        exact fin0 k (.tup ha ra) R
    · cases hp
theorem o_sub : OpR X (binaryOp .Sub) (rP2 X.K (binD .sub)) := op2_of fun pins s σ H x y v u Q G S d1 d2 d I rx ry r1 r2 R hp k => by
  cases d1 <;> cases d2 <;> simp only [binD, reduceCtorEq] at hp
  cases hp
  rw [r1.toInt] at rx
  rw [r2.toInt] at ry
  exact op_sub pins s σ H _ _ v u Q I rx ry ⟨_, _, rfl, rfl, fin0 k (.int _) R⟩
theorem Rls.rep {K : PySem.W.Frag} {G : Gh} {H : Hp} {xs : List V} {ds : List D} (r : Rls K G H xs ds) : ∀ n : Nat, Rls K G H (List.replicate n xs).flatten (List.replicate n ds).flatten
  | 0 => .nil
  | n + 1 => by
    rw [List.replicate_succ, List.replicate_succ, List.flatten_cons, List.flatten_cons]
    exact r.append (Rls.rep r n)
theorem o_mul : OpR X (binaryOp .Mult) (rP2 X.K (binD .mul)) := op2_of fun pins s σ H x y v u Q G S d1 d2 d I rx ry r1 r2 R hp k => by
  have lists : ∀ xs j, d1.list? = some xs → d2 = .int j → (if -(2 ^ 63) ≤ j ∧ j < 2 ^ 63 ∧ xs.length * j.toNat ≤ sizeLine then some (D.own (List.replicate j.toNat xs).flatten) else none) = some d → wpAny (model X.prog X.w) X.A (binaryOp .Mult v u) (EP X pins σ Q) X.xe s := by
    intro xs j e1 e2 hq
    subst e2
    split at hq
    · rename_i hz
      cases hq
      obtain ⟨a, vs, rfl, ha, ra⟩ := r1.toList e1
      rw [r2.toInt] at ry
      exact op_rep pins s σ H _ _ v u Q I rx ry ⟨a, j, vs, rfl, rfl, ha, hz.1, hz.2.1, by rw [ra.length]; exact hz.2.2, fun p hp => finL k (ra.rep _) R hp⟩
    · cases hq
  have tups : ∀ xs j, d1 = .tup xs → d2 = .int j → (if 1 ≤ xs.length ∧ 2 ≤ j ∧ j ≤ 1000 ∧ xs.length ≤ 1000 then some (D.tup (List.replicate j.toNat xs).flatten) else none) = some d → wpAny (model X.prog X.w) X.A (binaryOp .Mult v u) (EP X pins σ Q) X.xe s := by
    intro xs j e1 e2 hq
    subst e1
    subst e2
    split at hq
    · rename_i hz
      cases hq
      obtain ⟨a, vs, rfl, ha, ra⟩ := r1.toTup
      rw [r2.toInt] at ry
      exact op_repT pins s σ H _ _ v u Q I rx ry ⟨a, j, vs, rfl, rfl, ha, fun z => by have := ra.length; rw [z] at this; simp at this; omega, hz.2.1, hz.2.2.1, by rw [ra.length]; exact hz.2.2.2, fun p hp => finT k (ra.rep _) R hp⟩
    · cases hq
  cases d1 <;> cases d2 <;> simp only [binD, D.list?, reduceCtorEq] at hp <;> first | (cases hp; done) | exact lists _ _ rfl rfl hp | exact tups _ _ rfl rfl hp | skip
  split at hp
  · rename_i hz
    cases hp
    rw [r1.toInt] at rx
    rw [r2.toInt] at ry
    refine op_mul pins s σ H _ _ v u Q I rx ry ⟨_, _, rfl, rfl, ?_, fin0 k (.int _) R⟩
    simp only [small, Bool.or_eq_true, decide_eq_true_eq] at hz
    exact hz
  · cases hp
theorem o_fdiv : OpR X (binaryOp .FloorDiv) (rP2 X.K (binD .fdiv)) := op2_of fun pins s σ H x y v u Q G S d1 d2 d I rx ry r1 r2 R hp k => by
  cases d1 <;> cases d2 <;> simp only [binD, reduceCtorEq] at hp
  split at hp
  · rename_i hz
    cases hp
    rw [r1.toInt] at rx
    rw [r2.toInt] at ry
    exact op_fdiv pins s σ H _ _ v u Q I rx ry ⟨_, _, rfl, rfl, hz, fin0 k (.int _) R⟩
  · cases hp
theorem o_mod : OpR X (binaryOp .Mod) (rP2 X.K (binD .mod)) := op2_of fun pins s σ H x y v u Q G S d1 d2 d I rx ry r1 r2 R hp k => by
  cases d1 <;> cases d2 <;> simp only [binD, reduceCtorEq] at hp
  split at hp
  · rename_i hz
    cases hp
    rw [r1.toInt] at rx
    rw [r2.toInt] at ry
    exact op_mod pins s σ H _ _ v u Q I rx ry ⟨_, _, rfl, rfl, hz, fin0 k (.int _) R⟩
  · cases hp
theorem o_pow : OpR X (binaryOp .Pow) (rP2 X.K (binD .pow)) := op2_of fun pins s σ H x y v u Q G S d1 d2 d I rx ry r1 r2 R hp k => by
  cases d1 <;> cases d2 <;> simp only [binD, reduceCtorEq] at hp
  split at hp
  · rename_i hz
    cases hp
    rw [r1.toInt] at rx
    rw [r2.toInt] at ry
    exact op_pow pins s σ H _ _ v u Q I rx ry ⟨_, _, rfl, rfl, hz, fin0 k (.int _) R⟩
  · cases hp
def bopOf : BOp → Operator
  | .add => .Add
  | .sub => .Sub
  | .mul => .Mult
  | .fdiv => .FloorDiv
  | .mod => .Mod
  | .pow => .Pow
theorem o_bin (o : BOp) : OpR X (binaryOp (bopOf o)) (rP2 X.K (binD o)) := by
  cases o
  · exact o_add
  · exact o_sub
  · exact o_mul
  · exact o_fdiv
  · exact o_mod
  · exact o_pow
theorem s_bin {W : WX} {a b : Expr} {pos : Pos} {m1 m2 : Env → M D} (o : BOp) (ha : PE X a (tE X.K W m1)) (hb : PE X b (tE X.K W m2)) : PE X (.BinOp a (bopOf o) b pos) (tE X.K W fun ρ => M.bnd (m1 ρ) fun x => M.bnd (m2 ρ) fun y => M.ofO (binD o x y)) :=
  s_op2 (fun _ _ ha hb => pe_op (o_bin o) ha hb) ha hb
end
end WB
namespace WB
open PySem L2

mutual
theorem nk_hash : ∀ (d : D) (k : NestedKey), d.nk = some k → ∀ w w' : World, k.hash w = k.hash w'
  | .non, k, h, w, w' => by simp only [D.nk, Option.some.injEq] at h; subst h; rfl
  | .int _, k, h, w, w' => by simp only [D.nk, Option.some.injEq] at h; subst h; rfl
  | .bl _, k, h, w, w' => by simp only [D.nk, Option.some.injEq] at h; subst h; rfl
  | .tup xs, k, h, w, w' => by
    simp only [D.nk, Option.map_eq_some_iff] at h
    obtain ⟨ks, h1, h2⟩ := h
    subst h2
    simp only [NestedKey.hash, nks_hash xs ks h1 w w']
  | .str _, k, h, _, _ | .lst _, k, h, _, _ | .own _, k, h, _, _ | .bor _, k, h, _, _ | .scr _, k, h, _, _ | .ref _, k, h, _, _ | .exn0 _, k, h, _, _ | .exn1 _ _ _, k, h, _, _ | .dct _, k, h, _, _ | .kd _ _, k, h, _, _ | .okd _ _, k, h, _, _ | .lam, k, h, _, _ => by simp [D.nk] at h
theorem nks_hash : ∀ (ds : List D) (ks : List NestedKey), D.nks ds = some ks → ∀ w w' : World, NestedKey.hashes w ks = NestedKey.hashes w' ks
  | [], ks, h, w, w' => by simp only [D.nks, Option.some.injEq] at h; subst h; rfl
  | d :: r, ks, h, w, w' => by
    simp only [D.nks] at h
    cases e1 : d.nk with
    | none => simp [e1] at h
    | some k =>
      cases e2 : D.nks r with
      | none => simp [e1, e2] at h
      | some s =>
        simp only [e1, e2, Option.some.injEq] at h
        subst h
        simp only [NestedKey.hashes, nk_hash d k e1 w w', nks_hash r s e2 w w']
end
theorem key_nk {d : D} {k : NestedKey} (h : d.key = some k) : d.nk = some k ∧ k.depth ≤ 8 ∧ ∃ xs, d = .tup xs := by
  cases d with
  | tup xs =>
    simp only [D.key] at h
    cases e : D.nk (.tup xs) with
    | none => rw [e] at h; cases h
    | some k' =>
      rw [e] at h
      simp only at h
      split at h
      · rename_i z
        cases h
        exact ⟨rfl, z, xs, rfl⟩
      · cases h
  | _ => cases h
theorem key_hash {d : D} {k : NestedKey} (h : d.key = some k) (w w' : World) : k.hash w = k.hash w' := nk_hash d k (key_nk h).1 w w'
section
variable {X : Cx} {pins : List (Addr × Obj)} {σ : L2.St} {G : Gh} {H : Hp} {s : Shared}
mutual
theorem nk_is (I : Inv X pins σ H s) : ∀ {v : V} {d : D}, Rl0 X.K G H v d → ∀ {k : NestedKey} {u : Value}, d.nk = some k → RelV v u → NestedIs s.heap k u
  | _, _, .non, k, u, h, r => by
    simp only [D.nk, Option.some.injEq] at h
    subst h
    obtain rfl : u = Value.none := r
    exact .none
  | _, _, .bl b, k, u, h, r => by
    simp only [D.nk, Option.some.injEq] at h
    subst h
    obtain rfl : u = Value.bool b := r
    exact .bool rfl
  | _, _, .int i, k, u, h, r => by
    simp only [D.nk, Option.some.injEq] at h
    subst h
    obtain ⟨t, rfl⟩ := r
    exact .int i t
  | _, _, .tup (a := a) h1 h2, k, u, h, r => by
    simp only [D.nk, Option.map_eq_some_iff] at h
    obtain ⟨ks, e1, e2⟩ := h
    subst e2
    obtain rfl : u = Value.ref a := r
    obtain ⟨its, rv, ⟨o, q1, q2, n, q3⟩, _⟩ := I.tuple h1
    exact .tup q1 q2 q3 (nks_is I h2 e1 rv)
  | _, _, .str _, k, u, h, r => by simp [D.nk] at h
  | _, _, .lst _ _, k, u, h, r => by simp [D.nk] at h
  | _, _, .scr _ _, k, u, h, r => by simp [D.nk] at h
  | _, _, .ref _, k, u, h, r => by simp [D.nk] at h
  | _, _, .exn0 _ _, k, u, h, r => by simp [D.nk] at h
  | _, _, .exn1 _ _ _ _, k, u, h, r => by simp [D.nk] at h
  | _, _, .dct _ _, k, u, h, r => by simp [D.nk] at h
  | _, _, .kd _ _ _ _ _, k, u, h, r => by simp [D.nk] at h
theorem nks_is (I : Inv X pins σ H s) : ∀ {vs : List V} {ds : List D}, Rls X.K G H vs ds → ∀ {ks : List NestedKey} {us : List Value}, D.nks ds = some ks → Vals vs us → NestedAll s.heap ks us
  | _, _, .nil, ks, us, h, r => by
    simp only [D.nks, Option.some.injEq] at h
    subst h
    cases r
    exact .nil
  | _, _, .cons (d := d) (ds := ds) q1 q2, ks, us, h, r => by
    simp only [D.nks] at h
    cases e1 : d.nk with
    | none => simp [e1] at h
    | some k =>
      cases e2 : D.nks ds with
      | none => simp [e1, e2] at h
      | some s =>
        simp only [e1, e2, Option.some.injEq] at h
        subst h
        cases r with
        | cons r1 r2 => exact .cons (nk_is I q1 e1 r1) (nks_is I q2 e2 r2)
end
/-- a key as it stands -/
theorem key_is (I : Inv X pins σ H s) {b : Addr} {d : D} {k : NestedKey} (r : Rl0 X.K G H (.ref b) d) (h : d.key = some k) : (nestedKind X.prog X.w).is s.heap k b :=
  ⟨nk_is I r (key_nk h).1 (show RelV (.ref b) (.ref b) from rfl), (key_nk h).2.1⟩
theorem entX_is (I : Inv X pins σ H s) : ∀ {xs : List (NestedKey × Addr × Value)} {ks : List D} {kv xv : List V}, EntX xs ks kv xv → Rls X.K G H kv ks → ∀ x ∈ xs, (nestedKind X.prog X.w).is s.heap x.1 x.2.1
  | _, _, _, _, .nil, _, x, m => by cases m
  | _, _, _, _, .cons h1 h2 h3, .cons r1 r2, x, m => by
    rcases List.mem_cons.mp m with z | z
    · subst z; exact key_is I r1 h1
    · exact entX_is I h3 r2 x z
/-- the dict as it stands -/
theorem kd_there (I : Inv X pins σ H s) {a : Addr} {o : Obj} {xs : List (NestedKey × Addr × Value)} {ks : List D} {kv xv : List V} (h : H a = some (KDo a o xs)) (n : Ents xs ks kv xv) (r : Rls X.K G H kv ks) :
    (a == sysModules) = false ∧ s.heap.DictOfH (nestedKind X.prog X.w) a xs := by
  obtain ⟨⟨h0, h1, h2, es, ep, h3, h4⟩, _, _⟩ := I.hok a _ h
  exact ⟨h0, o, es, ep, h1, h2, h3, h4 X.w, entX_is I n.l r, n.nd⟩
end
theorem EntX.len : ∀ {xs : List (NestedKey × Addr × Value)} {ks : List D} {kv xv : List V}, EntX xs ks kv xv → xs.length = ks.length
  | _, _, _, _, .nil => rfl
  | _, _, _, _, .cons _ _ h => by rw [List.length_cons, List.length_cons, h.len]
theorem atKey_cons {k j : NestedKey} {p : Addr × Value} {xs : List (NestedKey × Addr × Value)} : atKey ((j, p) :: xs) k = if j = k then some p else atKey xs k := by
  by_cases h : j = k <;> simp [atKey, h]
theorem kdAt_some {K : PySem.W.Frag} {G : Gh} {H : Hp} {k : NestedKey} {d : D} : ∀ {xs : List (NestedKey × Addr × Value)} {ks vs : List D} {kv xv : List V}, EntX xs ks kv xv → Rls K G H xv vs → kdAt k ks vs = some d → ∃ p x, atKey xs k = some p ∧ RelV x p.2 ∧ Rl0 K G H x d
  | _, _, _, _, _, .nil, .nil, h => by cases h
  | _, _, _, _, _, .cons (k := j) (b := b) (u := u) (d := y) (x := x) h1 h2 h3, .cons r1 r2, h => by
    simp only [kdAt, h1, Option.some.injEq] at h
    by_cases e : j = k
    · rw [if_pos e] at h
      cases h
      exact ⟨(b, u), x, by rw [atKey_cons, if_pos e], h2, r1⟩
    · rw [if_neg e] at h
      obtain ⟨p, x, q1, q2⟩ := kdAt_some h3 r2 h
      exact ⟨p, x, by rw [atKey_cons, if_neg e]; exact q1, q2⟩
theorem kdAt_none {K : PySem.W.Frag} {G : Gh} {H : Hp} {k : NestedKey} : ∀ {xs : List (NestedKey × Addr × Value)} {ks vs : List D} {kv xv : List V}, EntX xs ks kv xv → Rls K G H xv vs → kdAt k ks vs = none → atKey xs k = none
  | _, _, _, _, _, .nil, .nil, h => rfl
  | _, _, _, _, _, .cons (k := j) (b := b) (u := u) (d := y) (x := x) h1 h2 h3, .cons r1 r2, h => by
    simp only [kdAt, h1, Option.some.injEq] at h
    by_cases e : j = k
    · rw [if_pos e] at h
      cases h
    · rw [if_neg e] at h
      rw [atKey_cons, if_neg e]
      exact kdAt_none h3 r2 h
theorem kdAt_is {K : PySem.W.Frag} {G : Gh} {H : Hp} {k : NestedKey} {xs : List (NestedKey × Addr × Value)} {ks vs : List D} {kv xv : List V} (n : EntX xs ks kv xv) (r : Rls K G H xv vs) : (atKey xs k).isSome = (kdAt k ks vs).isSome := by
  cases e : kdAt k ks vs with
  | none => rw [kdAt_none n r e]; rfl
  | some d =>
    obtain ⟨p, x, h, _⟩ := kdAt_some n r e
    rw [h]
    rfl
/-- what a plain value with the dict's kind is -/
theorem Rl.toKd {K : PySem.W.Frag} {G : Gh} {H : Hp} {v : V} {ks vs : List D} (h : Rl K G H v (.kd ks vs)) : ∃ a o xs kv xv, v = .ref a ∧ G.Z a ∧ H a = some (KDo a o xs) ∧ Ents xs ks kv xv ∧ Rls K G H kv ks ∧ Rls K G H xv vs := by
  cases h with
  | base h => cases h with | kd h1 h2 h3 h4 h5 => exact ⟨_, _, _, _, _, rfl, h1, h2, h3, h4, h5⟩
theorem Rl.toKey {K : PySem.W.Frag} {G : Gh} {H : Hp} {v : V} {d : D} {k : NestedKey} (h : Rl K G H v d) (e : d.key = some k) : Rl0 K G H v d ∧ ∃ b, v = .ref b := by
  obtain ⟨_, _, xs, rfl⟩ := key_nk e
  cases h with
  | base h => exact ⟨h, by cases h; exact ⟨_, rfl⟩⟩
section
variable {X : Cx} {G : Gh} {H : Hp} {pins : List (Addr × Obj)} {σ : L2.St} {s : Shared}
theorem kd_room (hu : X.A.units + 65 < cLine) : (nestedKind X.prog X.w).room X.A.in1 := by
  show X.A.units + 1 + 8 < cLine
  omega
theorem kd_in (hu : X.A.units + 65 < cLine) (I : Inv X pins σ H s) {x y : V} {v u : Value} {d1 : D} {ks vs : List D} {k : NestedKey} {Q : VK} (rx : RelV x v) (ry : RelV y u) (r1 : Rl X.K G H x d1) (r2 : Rl X.K G H y (.kd ks vs)) (hk : d1.key = some k) (h : Q (.bl (kdAt k ks vs).isSome) H) :
    wpAny (model X.prog X.w) X.A (compareOp .In v u) (EP X pins σ Q) X.xe s := by
  obtain ⟨q1, b, rfl⟩ := r1.toKey hk
  obtain ⟨a, o, xs, kv, xv, rfl, z, hH, n, r3, r4⟩ := r2.toKd
  obtain rfl : v = Value.ref b := rx
  obtain rfl : u = Value.ref a := ry
  obtain ⟨h0, hm⟩ := kd_there I hH n r3
  exact wpAny_in_heap (kd_room hu) (key_is I q1 hk) h0 hm ⟨.bl _, H, I.kept fun _ _ e => e, by rw [kdAt_is n.l r4]; rfl, h⟩
theorem kd_nin (hu : X.A.units + 65 < cLine) (I : Inv X pins σ H s) {x y : V} {v u : Value} {d1 : D} {ks vs : List D} {k : NestedKey} {Q : VK} (rx : RelV x v) (ry : RelV y u) (r1 : Rl X.K G H x d1) (r2 : Rl X.K G H y (.kd ks vs)) (hk : d1.key = some k) (h : Q (.bl (!(kdAt k ks vs).isSome)) H) :
    wpAny (model X.prog X.w) X.A (compareOp .NotIn v u) (EP X pins σ Q) X.xe s := by
  obtain ⟨q1, b, rfl⟩ := r1.toKey hk
  obtain ⟨a, o, xs, kv, xv, rfl, z, hH, n, r3, r4⟩ := r2.toKd
  obtain rfl : v = Value.ref b := rx
  obtain rfl : u = Value.ref a := ry
  obtain ⟨h0, hm⟩ := kd_there I hH n r3
  refine notIn_keyed (kd_room hu) (key_is I q1 hk) h0 ⟨xs, hm, rfl⟩ ⟨.bl _, H, I.kept fun _ _ e => e, ?_, h⟩
  rw [valueAt_pairsH, Option.isSome_map, kdAt_is n.l r4]
  rfl
theorem kd_get (hu : X.A.units + 65 < cLine) (I : Inv X pins σ H s) {x y : V} {v u : Value} {d1 d : D} {ks vs : List D} {k : NestedKey} {Q : VK} (rx : RelV x v) (ry : RelV y u) (r1 : Rl X.K G H x (.kd ks vs)) (r2 : Rl X.K G H y d1) (hk : d1.key = some k) (hd : kdAt k ks vs = some d) (h : ∀ w, Rl0 X.K G H w d → Q w H) :
    wpAny (model X.prog X.w) X.A (getItem v u) (EP X pins σ Q) X.xe s := by
  obtain ⟨q1, b, rfl⟩ := r2.toKey hk
  obtain ⟨a, o, xs, kv, xv, rfl, z, hH, n, r3, r4⟩ := r1.toKd
  obtain rfl : v = Value.ref a := rx
  obtain rfl : u = Value.ref b := ry
  obtain ⟨h0, hm⟩ := kd_there I hH n r3
  obtain ⟨p, w, e1, e2, e3⟩ := kdAt_some n.l r4 hd
  exact wpAny_getItem_heap (kd_room hu) (key_is I q1 hk) hm e1 ⟨w, H, I.kept fun _ _ e => e, e2, h w e3⟩
end
end WB
namespace WB
open PySem L2

section
variable {K : PySem.W.Frag} {G : Gh} {H : Hp}
mutual
theorem Rl0.dp : ∀ {v : V} {d : D} {p : PyData}, Rl0 K G H v d → d.py = some p → Dp K H v p
  | _, _, _, .non, e => by simp only [D.py, Option.some.injEq] at e; subst e; exact .non
  | _, _, _, .bl b, e => by simp only [D.py, Option.some.injEq] at e; subst e; exact .bl b
  | _, _, _, .int i, e => by simp only [D.py, Option.some.injEq] at e; subst e; exact .int i
  | _, _, _, .str x, e => by simp only [D.py, Option.some.injEq] at e; subst e; exact .str x
  | _, _, _, .tup h r, e => by
    simp only [D.py, Option.map_eq_some_iff] at e
    obtain ⟨ps, e1, e2⟩ := e
    subst e2
    exact .tup h (Rls.dp r e1)
  | _, _, _, .lst h r, e => by
    simp only [D.py, Option.map_eq_some_iff] at e
    obtain ⟨ps, e1, e2⟩ := e
    subst e2
    exact .lst (SqL.of h.2) (Rls.dp r e1)
  | _, _, _, .scr h r, e => by
    simp only [D.py, Option.map_eq_some_iff] at e
    obtain ⟨ps, e1, e2⟩ := e
    subst e2
    exact .lst h.sq (Rls.dp r e1)
  | _, _, _, .ref h, e => by simp [D.py] at e
  | _, _, _, .exn0 _ _, e => by simp [D.py] at e
  | _, _, _, .exn1 _ _ _ _, e => by simp [D.py] at e
  | _, _, _, .dct _ _, e => by simp [D.py] at e
  | _, _, _, .kd _ _ _ _ _, e => by simp [D.py] at e
theorem Rls.dp : ∀ {vs : List V} {ds : List D} {ps : List PyData}, Rls K G H vs ds → D.pys ds = some ps → DpAll K H vs ps
  | _, _, _, .nil, e => by simp only [D.pys, Option.some.injEq] at e; subst e; exact .nil
  | _, _, ps, .cons (d := d) (ds := ds) h r, e => by
    simp only [D.pys] at e
    cases e1 : D.py d with
    | none => simp [e1] at e
    | some p =>
      cases e2 : D.pys ds with
      | none => simp [e1, e2] at e
      | some qs =>
        simp only [e1, e2, Option.some.injEq] at e
        subst e
        exact .cons (Rl0.dp h e1) (Rls.dp r e2)
end
theorem Rl.dp {v : V} {d : D} {p : PyData} (h : Rl K G H v d) (e : d.py = some p) : Dp K H v p := by
  cases h with
  | base h => exact h.dp e
  | own h _ _ r =>
    simp only [D.py, Option.map_eq_some_iff] at e
    obtain ⟨ps, e1, e2⟩ := e
    subst e2
    exact .lst (SqL.of h) (Rls.dp r e1)
  | bor h _ _ r =>
    simp only [D.py, Option.map_eq_some_iff] at e
    obtain ⟨ps, e1, e2⟩ := e
    subst e2
    exact .lst (SqL.of h) (Rls.dp r e1)
  | okd => cases e
  | lam => cases e
theorem Rls.ints : ∀ {vs : List V} {ds : List D} {ns : List Int}, Rls K G H vs ds → D.ints? ds = some ns → vs = ns.map V.int
  | _, _, _, .nil, e => by simp only [D.ints?, Option.some.injEq] at e; subst e; rfl
  | _, _, _, .cons (d := d) h r, e => by
    cases h with
    | int i =>
      simp only [D.ints?, Option.map_eq_some_iff] at e
      obtain ⟨ms, e1, e2⟩ := e
      subst e2
      rw [Rls.ints r e1] <;> rfl
    | non => simp [D.ints?] at e
    | bl _ => simp [D.ints?] at e
    | str _ => simp [D.ints?] at e
    | tup _ _ => simp [D.ints?] at e
    | lst _ _ => simp [D.ints?] at e
    | scr _ _ => simp [D.ints?] at e
    | ref _ => simp [D.ints?] at e
    | exn0 _ _ => simp [D.ints?] at e
    | exn1 _ _ _ _ => simp [D.ints?] at e
    | dct _ _ => simp [D.ints?] at e
    | kd _ _ _ _ _ => simp [D.ints?] at e
theorem Rls.bls : ∀ {vs : List V} {ds : List D} {ns : List Bool}, Rls K G H vs ds → D.bls? ds = some ns → vs = ns.map V.bl
  | _, _, _, .nil, e => by simp only [D.bls?, Option.some.injEq] at e; subst e; rfl
  | _, _, _, .cons (d := d) h r, e => by
    cases h with
    | bl i =>
      simp only [D.bls?, Option.map_eq_some_iff] at e
      obtain ⟨ms, e1, e2⟩ := e
      subst e2
      rw [Rls.bls r e1] <;> rfl
    | non => simp [D.bls?] at e
    | int _ => simp [D.bls?] at e
    | str _ => simp [D.bls?] at e
    | tup _ _ => simp [D.bls?] at e
    | lst _ _ => simp [D.bls?] at e
    | scr _ _ => simp [D.bls?] at e
    | ref _ => simp [D.bls?] at e
    | exn0 _ _ => simp [D.bls?] at e
    | exn1 _ _ _ _ => simp [D.bls?] at e
    | dct _ _ => simp [D.bls?] at e
    | kd _ _ _ _ _ => simp [D.bls?] at e
theorem Rls.atI {vs : List V} {ds : List D} {i : Int} {d : D} (r : Rls K G H vs ds) (e : L2.atI ds i = some d) : ∃ v, L2.atI vs i = some v ∧ Rl0 K G H v d := by
  unfold L2.atI at e ⊢
  rw [r.length]
  cases q : L2.ixN ds.length i with
  | none => rw [q] at e; cases e
  | some j =>
    rw [q] at e
    exact r.get e
theorem Rls.cut {vs : List V} {ds : List D} {lo hi : Option Int} (r : Rls K G H vs ds) : Rls K G H (cutV vs lo hi) (cut ds lo hi) := by
  unfold cutV WB.cut
  rw [r.length]
  exact (r.drop _).take _
end

section
variable {X : Cx}
def copOf : COp → CmpOp
  | .eq => .Eq
  | .ne => .NotEq
  | .lt => .Lt
  | .le => .LtE
  | .gt => .Gt
  | .ge => .GtE
  | .isN => .Is
  | .notN => .IsNot
  | .mem => .In
  | .nmem => .NotIn
theorem eqD_cases {a b : D} {c : Bool} (h : eqD a b = some c) : (∃ x y, a = .str x ∧ b = .str y ∧ c = decide (x = y)) ∨ ∃ x y, a.py = some x ∧ b.py = some y ∧ SeqAt.shaped x = true ∧ SeqAt.shaped y = true ∧ c = PyData.eqv x y := by
  unfold eqD at h
  split at h
  · exact .inl ⟨_, _, rfl, rfl, (Option.some.inj h).symm⟩
  · split at h
    · rename_i x y e1 e2
      split at h
      · rename_i hs
        rw [Bool.and_eq_true] at hs
        exact .inr ⟨x, y, e1, e2, hs.1, hs.2, (Option.some.inj h).symm⟩
      · cases h
    · cases h
theorem memD_kd {a : D} {ks vs : List D} {c : Bool} (h : memD a (.kd ks vs) = some c) : ∃ k, a.key = some k ∧ c = (kdAt k ks vs).isSome := by
  unfold memD at h
  simp only at h
  split at h
  · rename_i k e
    exact ⟨k, e, (Option.some.inj h).symm⟩
  · cases h
theorem memD_or {a b : D} {c : Bool} (h : memD a b = some c) : (∃ ks vs, b = .kd ks vs) ∨ memL a b = some c := by
  cases b <;> first | exact .inl ⟨_, _, rfl⟩ | exact .inr h
theorem memD_cases {a b : D} {c : Bool} (h : memL a b = some c) : ∃ x ys, a.py = some x ∧ SeqAt.shaped x = true ∧ c = (ys.any fun y => PyData.eqv y x) ∧ ((b.py = some (.list ys) ∧ SeqAt.shaped (.list ys) = true) ∨ (b.py = some (.tuple ys) ∧ SeqAt.shaped (.tuple ys) = true)) := by
  unfold memL at h
  split at h
  · rename_i x ys e1 e2
    split at h
    · rename_i hs
      rw [Bool.and_eq_true] at hs
      exact ⟨x, ys, e1, hs.1, (Option.some.inj h).symm, .inl ⟨e2, hs.2⟩⟩
    · cases h
  · rename_i x ys e1 e2
    split at h
    · rename_i hs
      rw [Bool.and_eq_true] at hs
      exact ⟨x, ys, e1, hs.1, (Option.some.inj h).symm, .inr ⟨e2, hs.2⟩⟩
    · cases h
  · cases h
theorem o_cmp (hu : X.A.units + 65 < cLine) (o : COp) : OpR X (compareOp (copOf o)) (rP2 X.K fun a b => (cmpD o a b).map .bl) := op2_of fun pins s σ H x y v u Q G S d1 d2 d I rx ry r1 r2 R hp k => by
  obtain ⟨c, hc, rfl⟩ := Option.map_eq_some_iff.mp hp
  have fin : Q (.bl c) H := fin0 k (.bl c) R
  have ord : ∀ (i j : Int), d1 = .int i → d2 = .int j → x = .int i ∧ y = .int j := fun i j e1 e2 => by
    subst e1; subst e2; exact ⟨r1.toInt, r2.toInt⟩
  cases o with
  | eq =>
    rcases eqD_cases hc with ⟨a, b, e1, e2, e3⟩ | ⟨a, b, e1, e2, s1, s2, e3⟩
    · subst e1 e2 e3
      rw [r1.toStr] at rx
      rw [r2.toStr] at ry
      refine op_eq pins s σ H _ _ v u Q I rx ry ⟨rfl, ?_⟩
      rwa [show decide (V.str a = V.str b) = decide (a = b) by simp]
    · subst e3
      exact op_eqD (by omega) pins s σ H _ _ v u Q I rx ry ⟨a, b, r1.dp e1, r2.dp e2, s1, s2, fin⟩
  | ne =>
    obtain ⟨c', hc', rfl⟩ := Option.map_eq_some_iff.mp hc
    rcases eqD_cases hc' with ⟨a, b, e1, e2, e3⟩ | ⟨a, b, e1, e2, s1, s2, e3⟩
    · subst e1 e2 e3
      rw [r1.toStr] at rx
      rw [r2.toStr] at ry
      refine op_ne pins s σ H _ _ v u Q I rx ry ⟨rfl, ?_⟩
      rwa [show decide (V.str a = V.str b) = decide (a = b) by simp]
    · subst e3
      exact op_neD (by omega) pins s σ H _ _ v u Q I rx ry ⟨a, b, r1.dp e1, r2.dp e2, s1, s2, fin⟩
  | lt =>
    cases d1 <;> cases d2 <;> simp only [cmpD, reduceCtorEq] at hc
    · cases hc
      obtain ⟨rfl, rfl⟩ := ord _ _ rfl rfl
      exact op_lt pins s σ H _ _ v u Q I rx ry ⟨_, _, rfl, rfl, fin⟩
    · split at hc
      · rename_i a b e1 e2
        cases hc
        obtain ⟨p, xs, rfl, hx, rx'⟩ := r1.toTup
        obtain ⟨q, ys, rfl, hy, ry'⟩ := r2.toTup
        rw [rx'.ints e1] at hx
        rw [ry'.ints e2] at hy
        exact op_ltT (by omega) pins s σ H _ _ v u Q I rx ry ⟨p, q, a, b, rfl, rfl, hx, hy, fin⟩
      · cases hc
  | le =>
    cases d1 <;> cases d2 <;> simp only [cmpD, reduceCtorEq] at hc
    cases hc
    obtain ⟨rfl, rfl⟩ := ord _ _ rfl rfl
    exact op_le pins s σ H _ _ v u Q I rx ry ⟨_, _, rfl, rfl, fin⟩
  | gt =>
    cases d1 <;> cases d2 <;> simp only [cmpD, reduceCtorEq] at hc
    cases hc
    obtain ⟨rfl, rfl⟩ := ord _ _ rfl rfl
    exact op_gt pins s σ H _ _ v u Q I rx ry ⟨_, _, rfl, rfl, fin⟩
  | ge =>
    cases d1 <;> cases d2 <;> simp only [cmpD, reduceCtorEq] at hc
    cases hc
    obtain ⟨rfl, rfl⟩ := ord _ _ rfl rfl
    exact op_ge pins s σ H _ _ v u Q I rx ry ⟨_, _, rfl, rfl, fin⟩
  | isN =>
    cases d2 <;> simp only [cmpD, reduceCtorEq] at hc
    cases hc
    have hy := r2.toNon
    subst hy
    refine op_isN pins s σ H _ _ v u Q I rx ry ⟨rfl, ?_⟩
    have e : decide (x = V.non) = d1.isNon := by
      cases r1 with
      | base h => cases h <;> simp [D.isNon]
      | own _ _ _ _ => simp [D.isNon]
      | bor _ _ _ _ => simp [D.isNon]
      | okd _ _ _ _ _ _ => simp [D.isNon]
      | lam _ _ _ => simp [D.isNon]
    rw [e]
    exact fin
  | notN =>
    cases d2 <;> simp only [cmpD, reduceCtorEq] at hc
    cases hc
    have hy := r2.toNon
    subst hy
    refine op_notN pins s σ H _ _ v u Q I rx ry ⟨rfl, ?_⟩
    have e : (!decide (x = V.non)) = (!d1.isNon) := by
      cases r1 with
      | base h => cases h <;> simp [D.isNon]
      | own _ _ _ _ => simp [D.isNon]
      | bor _ _ _ _ => simp [D.isNon]
      | okd _ _ _ _ _ _ => simp [D.isNon]
      | lam _ _ _ => simp [D.isNon]
    rw [e]
    exact fin
  | mem =>
    rcases memD_or hc with ⟨ks, vs, rfl⟩ | hc
    · obtain ⟨kk, e1, rfl⟩ := memD_kd hc
      exact kd_in hu I rx ry r1 r2 e1 fin
    obtain ⟨a, ys, e1, s1, rfl, ⟨e2, s2⟩ | ⟨e2, s2⟩⟩ := memD_cases hc
    · exact op_inD (by omega) pins s σ H _ _ v u Q I rx ry ⟨a, ys, r1.dp e1, r2.dp e2, s1, s2, fin⟩
    · obtain ⟨as, q1⟩ := Dp.reads I a x v (r1.dp e1) rx
      obtain ⟨bs, q2⟩ := Dp.reads I _ y u (r2.dp e2) ry
      exact SeqAt.in_tuple_reads q2 q1 (SeqAt.canLay_of_shaped s2) (SeqAt.canLay_of_shaped s1) (PyProof.Rows.room_in_shaped s1 (by omega)) ⟨.bl _, H, I, rfl, fin⟩
  | nmem =>
    obtain ⟨c', hc', rfl⟩ := Option.map_eq_some_iff.mp hc
    rcases memD_or hc' with ⟨ks, vs, rfl⟩ | hc'
    · obtain ⟨kk, e1, rfl⟩ := memD_kd hc'
      exact kd_nin hu I rx ry r1 r2 e1 fin
    obtain ⟨a, ys, e1, s1, rfl, ⟨e2, s2⟩ | ⟨e2, s2⟩⟩ := memD_cases hc'
    · exact op_notInD (by omega) pins s σ H _ _ v u Q I rx ry ⟨a, ys, r1.dp e1, r2.dp e2, s1, s2, fin⟩
    · obtain ⟨as, q1⟩ := Dp.reads I a x v (r1.dp e1) rx
      obtain ⟨bs, q2⟩ := Dp.reads I _ y u (r2.dp e2) ry
      exact SeqAt.notIn_tuple_reads q2 q1 (SeqAt.canLay_of_shaped s2) (SeqAt.canLay_of_shaped s1) (PyProof.Rows.room_in_shaped s1 (by omega)) ⟨.bl _, H, I, rfl, fin⟩
theorem s_cmp {W : WX} {a b : Expr} {pos : Pos} {m1 m2 : Env → M D} (hu : X.A.units + 65 < cLine) (o : COp) (hm : behindInMarks (copOf o) b = false) (ha : PE X a (tE X.K W m1)) (hb : PE X b (tE X.K W m2)) :
    PE X (.Compare a [copOf o] [b] pos) (tE X.K W fun ρ => M.bnd (m1 ρ) fun x => M.bnd (m2 ρ) fun y => M.ofO ((cmpD o x y).map .bl)) :=
  s_op2 (fun _ _ ha hb => pe_cmpR (o_cmp hu o) ha hb hm) ha hb
theorem s_chain {W : WX} {a b c : Expr} {pos : Pos} {m1 m2 m3 : Env → M D} (hu : X.A.units + 65 < cLine) (o o' : COp) (hm : lastMarks [copOf o, copOf o'] [b, c] = false)
    (ha : PE X a (tE X.K W m1)) (hb : PE X b (tE X.K W m2)) (hc : PE X c (tE X.K W m3)) : PE X (.Compare a [copOf o, copOf o'] [b, c] pos)
      (tE X.K W fun ρ => M.bnd (m1 ρ) fun x => M.bnd (m2 ρ) fun y => M.bnd (M.ofO (cmpD o x y)) fun k => if k then M.bnd (m3 ρ) fun z => M.ofO ((cmpD o' y z).map .bl) else M.ret (.bl false)) := by
  refine PE.imp (pe_chain (o_cmp hu o) (o_cmp hu o') ha hb hc hm) fun σ H Q ⟨G, ρ, S, Hin, A, h⟩ => ?_
  refine tM_bnd rVal.mono A h fun v d G1 H1 S1 x1 A1 r1 h1 => ?_
  refine tM_bnd rVal.mono A1 h1 fun u e G2 H2 S2 x2 A2 r2 h2 => ?_
  cases q : cmpD o d e with
  | none => rw [q] at h2; exact h2.elim
  | some k =>
    rw [q] at h2
    have h2 : Post X.K W σ (rVal X.K) G2 H2 ((if k = true then M.bnd (m3 ρ) fun z => M.ofO ((cmpD o' e z).map .bl) else M.ret (.bl false)) S2) Q := h2
    refine ⟨G2, S2, d, e, .bl k, r1.1.ext x2, r2.1, A2.st, by show (cmpD o d e).map D.bl = _; rw [q]; rfl, fun w G3 H3 x3 r3 R3 => ⟨k, r3.1.toBl, ?_⟩⟩
    have A3 : At X.K Hin G3 H3 σ ρ S2 := ⟨A2.env.ext x3, R3⟩
    have h3 := Post.from rVal.mono x3 h2
    cases k with
    | false => exact Post.ret h3 (RlF.base (.bl false)) R3
    | true =>
      refine tM_bnd rVal.mono A3 h3 fun z f G4 H4 S4 x4 A4 r4 h4 => ?_
      obtain ⟨g, hg, h5⟩ := Post.ofO h4
      exact ⟨G4, S4, e, f, g, (r2.1.ext x3).ext x4, r4.1, A4.st, hg, h5⟩
end

section
variable {X : Cx}
theorem o_sub2 (hu : X.A.units + 65 < cLine) : IxR X (rP2 X.K subD) := by
  intro value slice pins s σ H x y v u Q I rx ry ⟨G, S, d1, d2, d, r1, r2, R, hp, k⟩ hs
  have hp0 := hp
  have way : (∃ ks vs, d1 = .kd ks vs) ∨ subL d1 d2 = some d := by
    cases d1 <;> first | exact .inl ⟨_, _, rfl⟩ | exact .inr hp
  clear hp
  rcases way with ⟨ks, vs, rfl⟩ | hp
  · have hp : (match d2.key with | some k => kdAt k ks vs | none => none) = some d := hp0
    split at hp
    · rename_i kk e1
      obtain ⟨a, o, xs, kv, xv, rfl, z, hH, n, r3, r4⟩ := r1.toKd
      have ty : s.TypeIs (.ref a) "dict" := (kd_there I hH n r3).2.typeIs
      obtain rfl : v = Value.ref a := rx
      exact PyProof.Rows.tail_any ty PySem.slot_dict_getitem.lookup (kd_get hu I (show RelV (V.ref a) (Value.ref a) from rfl) ry r1 r2 e1 hp fun w rw' => fin0 k rw' R) hs
    · cases hp
  unfold subL at hp
  split at hp
  · rename_i i
    have hy := r2.toInt
    have lists : ∀ ds, d1.list? = some ds → L2.atI ds i = some d → wpAny (model X.prog X.w) X.A (PyProof.Rows.subscriptTail value slice v u) (EP X pins σ Q) X.xe s := by
      intro ds e1 e2
      obtain ⟨a, xs, rfl, ha, ra⟩ := r1.toList e1
      obtain ⟨w, e3, rw'⟩ := ra.atI e2
      exact ix_list value slice pins s σ H _ _ v u Q I rx ry ⟨a, xs, i, w, rfl, hy, SqL.of ha, e3, fin0 k rw' R⟩ hs
    split at hp
    · obtain ⟨a, xs, rfl, ha, ra⟩ := r1.toTup
      obtain ⟨w, e3, rw'⟩ := ra.atI hp
      exact ix_tup value slice pins s σ H _ _ v u Q I rx ry ⟨a, xs, i, w, rfl, hy, ha, e3, fin0 k rw' R⟩ hs
    · exact lists _ rfl hp
    · exact lists _ rfl hp
    · exact lists _ rfl hp
    · cases hp
  · cases hp
theorem s_sub {W : WX} {a b : Expr} {pos : Pos} {m1 m2 : Env → M D} (hu : X.A.units + 65 < cLine) (hs : PlainIx b) (ha : PE X a (tE X.K W m1)) (hb : PE X b (tE X.K W m2)) : PE X (.Subscript a b pos) (tE X.K W fun ρ => M.bnd (m1 ρ) fun x => M.bnd (m2 ρ) fun y => M.ofO (subD x y)) :=
  s_op2 (fun _ _ ha hb => pe_ix (o_sub2 hu) ha hb hs) ha hb
def rSl (K : PySem.W.Frag) : V → Option Int → Option Int → Hp → VK → Prop := fun x lo hi H Q => ∃ G S d1 d, Rl K G H x d1 ∧ RelS K G H S ∧ slD d1 lo hi = some d ∧ ∀ v G' H', Ext H G H G' H' → RlF K H G' H' v d → RelS K G' H' S → Q v H'
theorem cut_whole {α : Type} {xs : List α} {lo hi : Option Int} (h : HT.sIx xs.length 0 lo = 0 ∧ HT.sIx xs.length xs.length hi = xs.length) : cut xs lo hi = xs := by
  unfold cut
  rw [h.1, h.2]
  simp
theorem o_sl : SlR X (rSl X.K) := by
  intro pins s σ H x v vl vu lo hi sl Q I rx hs pl pu ⟨G, S, d1, d, r1, R, hp, k⟩
  have lists : ∀ ds, (∃ a xs, x = .ref a ∧ SqL X.K H a xs ∧ Rls X.K G H xs ds) → d = .own (cut ds lo hi) → ∃ T id, typeLookup (.type T) "__getitem__" = pure (some (.builtin id)) ∧ s.TypeIs v T ∧ wpAny (model X.prog X.w) X.A (getItem v (.ref sl)) (EP X pins σ Q) X.xe s := by
    intro ds ⟨a, xs, e, ha, ra⟩ hd
    subst e hd
    exact sl_list pins s σ H _ v vl vu lo hi sl Q I rx hs pl pu ⟨a, xs, rfl, ha, fun p hp => finL k ra.cut R hp⟩
  cases d1 <;> simp only [slD, Option.some.injEq, reduceCtorEq] at hp
  · subst hp
    obtain ⟨a, xs, rfl, ha, ra⟩ := r1.toTup
    refine sl_tupA pins s σ H _ v vl vu lo hi sl Q I rx hs pl pu ⟨a, xs, rfl, ha, fun hw => ?_, fun _ p hp => finT k ra.cut R hp⟩
    rw [ra.length] at hw
    rw [cut_whole hw] at k
    exact fin0 k (.tup ha ra) R
  · obtain ⟨a, xs, e, ha, ra⟩ := r1.toList rfl
    exact lists _ ⟨a, xs, e, SqL.of ha, ra⟩ hp.symm
  · obtain ⟨a, xs, e, ha, ra⟩ := r1.toList rfl
    exact lists _ ⟨a, xs, e, SqL.of ha, ra⟩ hp.symm
  · obtain ⟨a, xs, e, ha, ra⟩ := r1.toList rfl
    exact lists _ ⟨a, xs, e, SqL.of ha, ra⟩ hp.symm
  · cases r1 with
    | base h => cases h with | scr h r => exact lists _ ⟨_, _, rfl, h.sq, r⟩ hp.symm
theorem s_sl {W : WX} {e : Expr} {lo hi : Option Expr} {p2 pos : Pos} {m : Env → M D} {ml mh : Env → M (Option Int)} (he : PE X e (tE X.K W m)) (hl : PO X lo (tOI X.K W ml)) (hh : PO X hi (tOI X.K W mh)) :
    PE X (.Subscript e (.Slice lo hi none p2) pos) (tE X.K W fun ρ => M.bnd (m ρ) fun x => M.bnd (ml ρ) fun l => M.bnd (mh ρ) fun h => M.ofO (slD x l h)) := by
  refine PE.imp (pe_slice o_sl he hl hh) fun σ H Q ⟨G, ρ, S, Hin, A, h⟩ => ?_
  refine tM_bnd rVal.mono A h fun v d G1 H1 S1 x1 A1 r1 h1 => ?_
  refine tM_bnd rVal.mono A1 h1 fun l l' G2 H2 S2 x2 A2 r2 h2 => ?_
  refine tM_bnd rVal.mono A2 h2 fun u u' G3 H3 S3 x3 A3 r3 h3 => ?_
  cases r2
  cases r3
  obtain ⟨z, hz, h4⟩ := Post.ofO h3
  exact ⟨G3, S3, d, z, (r1.1.ext x2).ext x3, A3.st, hz, h4⟩
theorem s_onone {W : WX} : PO X none (tOI X.K W fun _ => M.ret none) := PO.imp po_none fun σ H Q ⟨G, ρ, S, Hin, A, h⟩ => h.ret rfl A.st
theorem s_osome {W : WX} {e : Expr} {m : Env → M D} (he : PE X e (tE X.K W m)) : PO X (some e) (tOI X.K W fun ρ => M.bnd (m ρ) fun x => match x with | .int i => M.ret (some i) | _ => M.bad) := by
  refine PO.imp (po_some he) fun σ H Q ⟨G, ρ, S, Hin, A, h⟩ => ?_
  refine tM_bnd rEq.mono A h fun v d G1 H1 S1 x1 A1 r1 h1 => ?_
  cases d <;> first | exact h1.elim | skip
  exact ⟨_, r1.1.toInt, h1.ret rfl A1.st⟩
end
section
open PySem.Spec PyProof.Rows
variable {prog : Program} {w : World} {A : Around} {E : Value → Shared → Prop} {s : Shared}
theorem adjust_back (n : Nat) : Builtin.Slice.sliceAdjust none none (-1) (n : Int) = ((n : Int) - 1, -1) := by
  have h1 : (-1 : Int) < 0 := by omega
  unfold Builtin.Slice.sliceAdjust
  simp only [h1, if_true]
theorem places_back (n : Nat) : Builtin.Slice.slicePlaces ((n : Int) - 1) (-1) (-1) = n := by
  unfold Builtin.Slice.slicePlaces
  have h1 : ¬ ((-1 : Int) > 0) := by omega
  simp only [h1, if_false, show (- -1 : Int) = 1 by decide, Int.ediv_one]
  split <;> omega
theorem applied_back {sl : Addr} {t : Tok} {n : Nat} {Q : Int × Int × Nat → Shared → Prop} (hs : s.heap.IsSliceOf sl .none .none (.int (-1) t))
    (h : Q ((n : Int) - 1, -1, n) s) : wpAny (model prog w) A (Builtin.Slice.sliceApplied (.ref sl) (pure (n : Int))) Q E s := by
  obtain ⟨os, hos, hcs, hds⟩ := id hs
  unfold Builtin.Slice.sliceApplied Builtin.Slice.sliceFields
  refine wpAny_bind (wpAny_bind (wpAny_field hos hds (x := .none) rfl (wpAny_bind (wpAny_field hos hds (x := .none) rfl (wpAny_bind (wpAny_field hos hds (x := .int (-1) t) rfl (wpAny_pure ?_)))))))
  refine wpAny_bind (HT.slicePart_ (.int (-1) t) ?_)
  show wpAny _ _ (if ((-1 : Int) == 0) = true then _ else _) _ _ s
  rw [if_neg (by decide)]
  refine wpAny_bind (HT.slicePart_ .none (wpAny_bind (HT.slicePart_ .none (wpAny_bind (wpAny_pure ?_)))))
  show wpAny _ _ (match Builtin.Slice.sliceAdjust none none (-1) (n : Int) with | (lo, hi) => pure (lo, (-1 : Int), Builtin.Slice.slicePlaces lo hi (-1))) _ _ s
  rw [adjust_back n]
  show wpAny _ _ (pure ((n : Int) - 1, (-1 : Int), Builtin.Slice.slicePlaces ((n : Int) - 1) (-1) (-1))) _ _ s
  rw [places_back]
  exact wpAny_pure h
theorem fm_congr {α β : Type} {f g : α → Option β} : ∀ {l : List α}, (∀ a ∈ l, f a = g a) → l.filterMap f = l.filterMap g
  | [], _ => rfl
  | a :: l, h => by
    rw [List.filterMap_cons, List.filterMap_cons, h a (List.mem_cons_self ..), fm_congr fun b hb => h b (List.mem_cons_of_mem _ hb)]
theorem pick_back (xs : Array Value) : ((List.range xs.size).filterMap fun (m : Nat) => xs[(((xs.size : Int) - 1) + (m : Int) * (-1)).toNat]?).toArray = xs.toList.reverse.toArray := by
  have e : ((List.range xs.size).filterMap fun (m : Nat) => xs[(((xs.size : Int) - 1) + (m : Int) * (-1)).toNat]?) = ((List.range xs.size).map fun k => xs.size - 1 - k).filterMap (xs[·]?) := by
    rw [List.filterMap_map]
    exact fm_congr fun m hm => by
      have := List.mem_range.mp hm
      have e2 : (((xs.size : Int) - 1) + (m : Int) * (-1)).toNat = xs.size - 1 - m := by omega
      rw [e2]
      rfl
  rw [e, PySem.W.krv_range, List.filterMap_reverse, PySem.W.krv_all]
theorem getItem_back {t sl : Addr} {items : Array Value} {k : Tok} {Q : Value → Shared → Prop} (ht : IsTup s.heap t items) (hs : s.heap.IsSliceOf sl .none .none (.int (-1) k))
    (h : Q (.ref s.heap.objs.size) { s with heap := s.heap.push { cls := .type "tuple", data := .seq items.toList.reverse.toArray } })
    (hsz : items.size ≤ sizeLine) : wpAny (model prog w) A (getItem (.ref t) (.ref sl)) Q E s := by
  have htake : sizeOk (.seq items.toList.reverse.toArray) := by
    show items.toList.reverse.toArray.size ≤ sizeLine
    rw [List.size_toArray, List.length_reverse, Array.length_toList]
    exact hsz
  obtain ⟨os, hos, hcs, hds⟩ := id hs
  have hTs : s.TypeIs (.ref sl) "slice" := ⟨os, hos, hcs⟩
  unfold getItem
  try with_reducible refine wpAny_holding ?_
  first | refine wpAny_bind (wpAny_pure ?_) | skip
  refine wpAny_bind (wpAny_sequenceKey ht.typeIs (by decide) ?_)
  refine wpAny_bind (wpAny_callSpecial?_slot (name := Str.ofString "__getitem__") ht.typeIs PyProof.Rows.slot_tuple_getitem
    (wpAny_call_entry PyProof.Rows.slot_tuple_getitem ht.typeIs entry_tuple_getitem ?_ (args_tuple_getitem _ _)))
  show wpAny _ _ (Builtin.Tuple.tupleItemsOf (.ref t) >>= _) _ _ s
  refine wpAny_bind (tupleItemsOf_ ht ?_)
  refine wpAny_bind (wpAny_typeOf hTs ?_)
  rw [if_pos (by decide)]
  refine wpAny_bind (applied_back hs ?_)
  have hno : ¬ ((((items.size : Int) - 1) == 0 && (-1 : Int) == 1 && items.size == items.size) = true) := by
    intro q
    rw [Bool.and_eq_true, Bool.and_eq_true] at q
    exact absurd q.1.2 (by decide)
  show wpAny _ _ (if (((items.size : Int) - 1) == 0 && (-1 : Int) == 1 && items.size == items.size) = true then _ else _) _ _ s
  rw [if_neg hno, pick_back]
  first
    | exact wpAny_bind (m := Builtin.Tuple.tupleExact _) (wpAny_newObj_type (wpAny_pure ⟨_, rfl, wpAny_pure h⟩) htake)
    | exact wpAny_bind (m := Builtin.Tuple.tupleExact _) (wpAny_newObj_type (wpAny_bind (wpAny_pure (wpAny_pure ⟨_, rfl, wpAny_pure h⟩))) htake)
    | exact wpAny_bind (wpAny_bind (m := Builtin.Tuple.tupleExact _) (wpAny_newObj_type (wpAny_pure (wpAny_pure ⟨_, rfl, wpAny_pure h⟩)) htake))
    | exact wpAny_bind (wpAny_bind (m := Builtin.Tuple.tupleExact _) (wpAny_newObj_type (wpAny_pure ⟨_, rfl, wpAny_pure h⟩) htake))
end
section
open PySem.Spec PyProof.Rows
variable {X : Cx}
def tRevT (K : PySem.W.Frag) (te : TE) : TE := fun σ H Q => te σ H fun x H1 => ∃ a xs, x = .ref a ∧ SqT K H1 a xs ∧ ∀ p, H1 p = none → Q (.ref p) (upd H1 p (.tup xs.reverse))
theorem pe_revT {e : Expr} {te : TE} {k : Nat} {p1 p2 p3 pos : Pos} (he : PE X e te) : PE X (.Subscript e (.Slice none none (some (.UnaryOp .USub (.Constant (.int 1) k p1) p2)) p3) pos) (tRevT X.K te) := by
  refine ⟨fun pins s σ H Q I h => ?_⟩
  refine Subscript_ (thn (he.run pins s σ H _ I h) fun v s1 ⟨x, H1, I1, r1, a, xs, ex, hx, q⟩ => ?_)
  subst ex
  cases r1
  have hst : PO X (some (.UnaryOp .USub (.Constant (.int 1) k p1) p2)) (tPart (tUn (rU fun i => .int (-i)) (tC (.int 1)))) := po_some (pe_un un_neg pe_int)
  refine wpAny_Slice (thn (po_none.run pins s1 σ H1 (fun o H2 => o = none ∧ H2 = H1) I1 ⟨rfl, rfl⟩) fun vl s2 ⟨l, H2, I2, pl, z⟩ => ?_)
  obtain ⟨el, e2⟩ := z
  subst el e2
  refine thn (po_none.run pins s2 σ H2 (fun o H3 => o = none ∧ H3 = H2) I2 ⟨rfl, rfl⟩) fun vu s3 ⟨u, H3, I3, pu, z⟩ => ?_
  obtain ⟨eu, e3⟩ := z
  subst eu e3
  refine thn (hst.run pins s3 σ H3 (fun o H4 => o = some (-1) ∧ H4 = H3) I3 ⟨1, rfl, -1, rfl, rfl, rfl⟩) fun vs s4 ⟨o, H4, I4, ps, z⟩ => ?_
  obtain ⟨eo, e4⟩ := z
  subst eo e4
  have I5 : Inv X pins σ H4 { s4 with heap := s4.heap.push { cls := .type "slice", data := .fields #[vl, vu, vs] } } := I4.kept (t' := s4.toks) fun b ob q => Heap.get?_push_of_some _ q
  obtain ⟨its, r, ht, hz⟩ := I5.tuple hx
  have hlen := r.length
  cases pl
  cases pu
  cases ps
  show wpAny (model X.prog X.w) X.A (subscriptTail e (.Slice none none (some (.UnaryOp .USub (.Constant (.int 1) k p1) p2)) p3) (.ref a) (.ref s4.heap.objs.size)) (EP X pins σ Q) X.xe { s4 with heap := s4.heap.push { cls := .type "slice", data := .fields _ } }
  refine tail_any (ops := [.ref a, .ref s4.heap.objs.size]) ht.typeIs (PyProof.Rows.slot_tuple_getitem.lookup) ?_ (by with_unfolding_all rfl)
  refine getItem_back ht (Heap.IsSliceOf.new ..) ?_ (by rw [List.size_toArray]; omega)
  refine ⟨.ref _, _, I5.laid (t' := s4.toks) (o := .tup xs.reverse) (fun b ob q => Heap.get?_push_of_some _ q) (Nat.le_refl _) ?_, rfl, q _ (I5.hok.fresh (Nat.le_refl _))⟩
  exact ⟨by rw [List.length_reverse]; exact hz, _, r.reverse, IsTup.new _ _⟩
theorem s_revT {W : WX} {e : Expr} {k : Nat} {p1 p2 p3 pos : Pos} {m : Env → M D} (he : PE X e (tE X.K W m)) :
    PE X (.Subscript e (.Slice none none (some (.UnaryOp .USub (.Constant (.int 1) k p1) p2)) p3) pos) (tE X.K W fun ρ => M.bnd (m ρ) revM) := by
  refine PE.imp (pe_revT he) fun σ H Q ⟨G, ρ, S, Hin, A, h⟩ => ?_
  refine tM_bnd rVal.mono A h fun v d G1 H1 S1 x1 A1 r1 h1 => ?_
  cases d <;> first | exact h1.elim | skip
  obtain ⟨a, xs, rfl, ha, ra⟩ := r1.1.toTup
  exact ⟨a, xs, rfl, ha, fun p hp => finT h1 ra.reverse A1.st hp⟩
end
end WB
namespace WB
open PySem L2

section
variable {X : Cx}
def rB (K : PySem.W.Frag) (b : Bi) : List V → Hp → VK → Prop := fun xs H Q => ∃ x G S d d', xs = [x] ∧ Rl K G H x d ∧ RelS K G H S ∧ biM b d S = .ok d' S ∧ ∀ v G' H', Ext H G H G' H' → RlF K H G' H' v d' → RelS K G' H' S → Q v H'
theorem biM_ok (b : Bi) (d : D) (S : Store) : biM b d S = .bad ∨ ∃ d', biM b d S = .ok d' S := by
  unfold biM
  repeat (first | exact .inl rfl | exact .inr ⟨_, rfl⟩ | split)
theorem s_bi {W : WX} {a : Expr} {pos p : Pos} {m : Env → M D} {nm : Str} (b : Bi) (hc : ∀ ta, PE X a ta → PE X (.Call (.Name nm p) [a] [] pos) (tCB (rB X.K b) (tCons ta tNil))) (ha : PE X a (tE X.K W m)) :
    PE X (.Call (.Name nm p) [a] [] pos) (tE X.K W fun ρ => M.bnd (m ρ) (biM b)) := by
  refine PE.imp (hc _ ha) fun σ H Q ⟨G, ρ, S, Hin, A, h⟩ => ?_
  refine tM_bnd rVal.mono A h fun v d G1 H1 S1 x1 A1 r1 h1 => ?_
  rcases biM_ok b d S1 with e | ⟨d', e⟩
  · rw [e] at h1; exact h1.elim
  · rw [e] at h1
    exact ⟨v, G1, S1, d, d', rfl, r1.1, A1.st, e, h1⟩
theorem cb_of {f : Value} {b : Bi} (h : ∀ (pins : List (Addr × Obj)) (s : Shared) (σ : L2.St) (H : Hp) (x : V) (u : Value) (Q : VK) (G : Gh) (S : Store) (d d' : D), Inv X pins σ H s → RelV x u → Rl X.K G H x d → RelS X.K G H S → biM b d S = .ok d' S →
    (∀ v G' H', Ext H G H G' H' → RlF X.K H G' H' v d' → RelS X.K G' H' S → Q v H') → wpAny (model X.prog X.w) X.A (call f [u]) (EP X pins σ Q) X.xe s) : CallR X f (rB X.K b) := by
  intro pins s σ H xs us Q I r ⟨x, G, S, d, d', e, r1, R, hb, k⟩
  subst e
  obtain ⟨u, rfl, ru⟩ := vals1 r
  exact h pins s σ H x u Q G S d d' I ru r1 R hb k
theorem vone {x : V} {u : Value} (r : RelV x u) : Vals [x] [u] := .cons r .nil
theorem c_len : CallR X (.builtin "len") (rB X.K .len) := cb_of fun pins s σ H x u Q G S d d' I ru r R hb k => by
  have seqs : ∀ ds, d.seq? = some ds → d' = .int ds.length → wpAny (model X.prog X.w) X.A (call (.builtin "len") [u]) (EP X pins σ Q) X.xe s := fun ds e1 e2 => by
    subst e2
    obtain ⟨a, xs, rfl, ha, ra⟩ := r.toSeq e1
    refine call_len_seq pins s σ H _ _ Q I (vone ru) ⟨a, xs, rfl, ha, ?_⟩
    rw [ra.length]
    exact fin0 k (.int _) R
  cases d <;> simp only [biM, D.seq?] at hb <;> first | (cases hb; done) | (cases hb; exact seqs _ rfl rfl) | skip
  · split at hb
    · rename_i hz
      cases hb
      rw [r.toStr] at ru
      exact call_len_str pins s σ H _ _ Q I (vone ru) ⟨_, rfl, hz, fin0 k (.int _) R⟩
    · cases hb
  split at hb
  · rename_i ks vs hz
    cases hb
    obtain ⟨a, o, xs, kv, xv, rfl, z, hH, n, r3, r4⟩ := r.toKd
    obtain rfl : u = Value.ref a := ru
    obtain ⟨h0, hm⟩ := kd_there I hH n r3
    have sz : sizeLine = 16777216 := rfl
    have z2 := n.sz
    refine call_len_dictH h0 hm (by omega) ⟨.int ks.length, H, I.tok _, ⟨s.toks + 1, by rw [n.l.len]⟩, fin0 k (.int _) R⟩
  · cases hb
theorem c_all (hc : X.calm = true) : CallR X (.builtin "all") (rB X.K .all) := cb_of fun pins s σ H x u Q G S d d' I ru r R hb k => by
  simp only [biM] at hb
  split at hb
  · rename_i bs e
    cases hb
    obtain ⟨ds, e1, e2⟩ := Option.bind_eq_some_iff.mp e
    obtain ⟨a, xs, rfl, ha, ra⟩ := r.toList e1
    rw [ra.bls e2] at ha
    exact cr_all hc pins s σ H _ _ Q I (vone ru) ⟨a, bs, rfl, SqL.of ha, fin0 k (.bl _) R⟩
  · cases hb
theorem c_sum (hc : X.calm = true) : CallR X (.builtin "sum") (rB X.K .sum) := cb_of fun pins s σ H x u Q G S d d' I ru r R hb k => by
  simp only [biM] at hb
  split at hb
  · rename_i bs e
    cases hb
    obtain ⟨ds, e1, e2⟩ := Option.bind_eq_some_iff.mp e
    obtain ⟨a, xs, rfl, ha, ra⟩ := r.toList e1
    rw [ra.ints e2] at ha
    exact cr_sum hc pins s σ H _ _ Q I (vone ru) ⟨a, bs, rfl, SqL.of ha, fin0 k (.int _) R⟩
  · cases hb
theorem c_tuple : CallR X (.type "tuple") (rB X.K .tuple) := cb_of fun pins s σ H x u Q G S d d' I ru r R hb k => by
  simp only [biM] at hb
  split at hb
  · rename_i ds e
    cases hb
    obtain ⟨a, xs, rfl, ha, ra⟩ := r.toSeq e
    refine call_tuple_of pins s σ H _ _ Q I (vone ru) ⟨a, xs, rfl, ?_⟩
    rcases ha with ha | ha
    · exact .inl ⟨ha, fun l hl => finT k ra R hl⟩
    · exact .inr ⟨ha, fin0 k (.tup ha ra) R⟩
  · cases hb
theorem c_list : CallR X (.type "list") (rB X.K .list) := cb_of fun pins s σ H x u Q G S d d' I ru r R hb k => by
  simp only [biM] at hb
  split at hb
  · rename_i ds e
    cases hb
    obtain ⟨a, xs, rfl, ha, ra⟩ := r.toSeq e
    exact call_list_of pins s σ H _ _ Q I (vone ru) ⟨a, xs, rfl, ha, fun l hl => finL k ra R hl⟩
  · cases hb
theorem c_abs : CallR X (.builtin "abs") (rB X.K .abs) := cb_of fun pins s σ H x u Q G S d d' I ru r R hb k => by
  cases d <;> simp only [biM, reduceCtorEq] at hb
  cases hb
  rw [r.toInt] at ru
  exact call_abs pins s σ H _ _ Q I (vone ru) ⟨_, rfl, fin0 k (.int _) R⟩
theorem c_int : CallR X (.type "int") (rB X.K .int) := cb_of fun pins s σ H x u Q G S d d' I ru r R hb k => by
  cases d <;> simp only [biM, reduceCtorEq] at hb
  · cases hb
    rw [r.toBl] at ru
    exact call_int1 pins s σ H _ _ Q I (vone ru) (.inr ⟨_, rfl, fin0 k (.int _) R⟩)
  · cases hb
    rw [r.toInt] at ru
    exact call_int1 pins s σ H _ _ Q I (vone ru) (.inl ⟨_, rfl, fin0 k (.int _) R⟩)
theorem dct_all {P : Program} {w : World} {h : Heap} : ∀ {kvs : List (Int × Int)} {vs : List (Key × Value)} {es : List DictEntry}, KV (kvs.map fun p => ((Sum.inl p.1 : Key), V.int p.2)) vs → Pairs (mixKind P w) es vs →
    ReadsAll h (es.map (·.key)) ((kvs.map fun p => (PyData.int p.1, PyData.int p.2)).map (·.1)) [] ∧ ReadsAll h (es.map (·.val)) ((kvs.map fun p => (PyData.int p.1, PyData.int p.2)).map (·.2)) []
  | [], _, _, kv, ps => by cases kv; cases ps; exact ⟨.nil, .nil⟩
  | p :: r, _, _, kv, ps => by
    cases kv with
    | cons k1 k2 =>
      cases ps with
      | cons q1 q2 q3 =>
        obtain ⟨e1, t, e2⟩ := k1
        obtain ⟨h1, h2⟩ := dct_all k2 q3
        have q1' : keyIs _ _ = true := q1
        rw [← e1] at q1'
        rcases keyIs_shape q1' with ⟨i, u, z1, z2⟩ | ⟨x, u, z1, z2⟩
        · cases z1
          constructor
          · rw [List.map_cons, List.map_cons, List.map_cons, z2]
            exact ReadsAll.cons (as := []) (bs := []) (.int _ _) h1
          · rw [List.map_cons, List.map_cons, List.map_cons, q2, e2]
            exact ReadsAll.cons (as := []) (bs := []) (.int _ _) h2
        · cases z1
theorem dct_reads {P : Program} {w : World} {h : Heap} {a : Addr} {kvs : List (Int × Int)} {vs : List (Key × Value)} {o : Obj} {es : Array DictEntry} {ep : Nat} (kv : KV (kvs.map fun p => ((Sum.inl p.1 : Key), V.int p.2)) vs) (h1 : h.get? a = some o) (h2 : o.ExactDict) (h3 : o.data = .dict es ep)
    (h4 : KeysOf (mixKind P w) es ∧ Pairs (mixKind P w) es.toList vs ∧ (vs.map (·.1)).Nodup) (hs : (a == sysModules) = false) : ∃ as, Reads h (.ref a) (.dict (kvs.map fun p => (PyData.int p.1, PyData.int p.2))) as ∧ sysModules ∉ as := by
  obtain ⟨r1, r2⟩ := dct_all (h := h) kv h4.2.1
  refine ⟨_, .dict h1 h2.1 h3 r1 r2, ?_⟩
  simp only [List.append_nil, List.mem_cons, List.not_mem_nil, or_false]
  intro z
  rw [z] at hs
  simp at hs
theorem lst_reads {h : Heap} {H : Hp} {a : Addr} {u : HO} {its : List Value} {n : Nat} {ps : List PyData} {as : List Addr} (sm : H sysModules = none) (ha : H a = some u) (h1 : h.get? a = some { cls := .type "list", data := .seq its.toArray n }) (q1 : ReadsAll h its ps as) (q2 : sysModules ∉ as) :
    ∃ as, Reads h (.ref a) (.list ps) as ∧ sysModules ∉ as := by
  refine ⟨a :: as, .list h1 rfl rfl (by simpa using q1), ?_⟩
  intro z
  rcases List.mem_cons.mp z with z | z
  · rw [← z, sm] at ha
    cases ha
  · exact q2 z
mutual
theorem Rl0.readsR {pins : List (Addr × Obj)} {s : Shared} {σ : St} {G : Gh} {H : Hp} (I : Inv X pins σ H s) (sm : H sysModules = none) : ∀ {v : V} {d : D} {u : Value} {p : PyData}, Rl0 X.K G H v d → RelV v u → d.pyR = some p → ∃ as, Reads s.heap u p as ∧ sysModules ∉ as
  | _, _, u, p, .non, ru, e => by cases e; cases ru; exact ⟨[], .none, nofun⟩
  | _, _, u, p, .bl b, ru, e => by cases e; cases ru; exact ⟨[], .bool b, nofun⟩
  | _, _, u, p, .int i, ru, e => by cases e; obtain ⟨t, rfl⟩ := ru; exact ⟨[], .int i t, nofun⟩
  | _, _, u, p, .str x, ru, e => by cases e; obtain ⟨t, rfl⟩ := ru; exact ⟨[], .str x t, nofun⟩
  | _, _, u, p, .tup h r, ru, e => by
    simp only [D.pyR, Option.map_eq_some_iff] at e
    obtain ⟨ps, e1, e2⟩ := e
    subst e2
    cases ru
    obtain ⟨its, rv, ⟨o, h1, h2, n, h3⟩, hz⟩ := I.tuple h
    obtain ⟨as, q1, q2⟩ := Rls.readsR I sm r rv e1
    exact ⟨as, .tuple h1 h2 h3 q1, q2⟩
  | _, _, u, p, .dct z h, ru, e => by
    cases e
    cases ru
    obtain ⟨_, hs, vs, kv, o, es, ep, h1, h2, h3, h4⟩ := I.hok _ _ h
    exact dct_reads kv h1 h2 h3 h4 hs
  | _, _, u, p, .lst h r, ru, e => by
    simp only [D.pyR, Option.map_eq_some_iff] at e
    obtain ⟨ps, e1, e2⟩ := e
    subst e2
    cases ru
    obtain ⟨z, its, n, rv, h1⟩ := I.hok _ _ h.2
    obtain ⟨as, q1, q2⟩ := Rls.readsR I sm r rv e1
    exact lst_reads sm h.2 h1 q1 q2
  | _, _, u, p, .scr _ _, ru, e => by cases e
  | _, _, u, p, .ref _, ru, e => by cases e
  | _, _, u, p, .exn0 _ _, ru, e => by cases e
  | _, _, u, p, .exn1 _ _ _ _, ru, e => by cases e
  | _, _, u, p, .kd _ _ _ _ _, ru, e => by cases e
theorem Rls.readsR {pins : List (Addr × Obj)} {s : Shared} {σ : St} {G : Gh} {H : Hp} (I : Inv X pins σ H s) (sm : H sysModules = none) : ∀ {vs : List V} {ds : List D} {us : List Value} {ps : List PyData}, Rls X.K G H vs ds → Vals vs us → D.pyRs ds = some ps → ∃ as, ReadsAll s.heap us ps as ∧ sysModules ∉ as
  | _, _, us, ps, .nil, rv, e => by cases e; cases rv; exact ⟨[], .nil, nofun⟩
  | _, _, us, ps, .cons (d := d) (ds := ds) h r, rv, e => by
    cases rv with
    | cons r1 r2 =>
      simp only [D.pyRs] at e
      split at e
      · rename_i p q ep eq
        cases e
        obtain ⟨a1, z1, z2⟩ := Rl0.readsR I sm h r1 ep
        obtain ⟨a2, z3, z4⟩ := Rls.readsR I sm r r2 eq
        exact ⟨a1 ++ a2, .cons z1 z3, by rw [List.mem_append]; exact fun z => z.elim z2 z4⟩
      · cases e
end
theorem Rl.readsR {pins : List (Addr × Obj)} {s : Shared} {σ : St} {G : Gh} {H : Hp} (I : Inv X pins σ H s) (sm : H sysModules = none) {v : V} {d : D} {u : Value} {p : PyData} (h : Rl X.K G H v d) (ru : RelV v u) (e : d.pyR = some p) : ∃ as, Reads s.heap u p as ∧ sysModules ∉ as := by
  have big : ∀ {a : Addr} {xs : List V} {ds : List D}, H a = some (.lst xs) → Rls X.K G H xs ds → u = .ref a → (D.pyRs ds).map PyData.list = some p → ∃ as, Reads s.heap u p as ∧ sysModules ∉ as := fun {a xs ds} ha r eu e => by
    obtain ⟨ps, e1, e2⟩ := Option.map_eq_some_iff.mp e
    subst e2 eu
    obtain ⟨z, its, n, rv, h1⟩ := I.hok _ _ ha
    obtain ⟨as, q1, q2⟩ := Rls.readsR I sm r rv e1
    exact lst_reads sm ha h1 q1 q2
  cases h with
  | base h => exact h.readsR I sm ru e
  | own ha _ _ r => exact big ha r ru e
  | bor ha _ _ r => exact big ha r ru e
  | okd => cases e
  | lam => cases e
theorem c_repr (hu : X.A.units + 65 < cLine) (hg : X.A.guards = some []) (sm : ∃ o, X.base.get? sysModules = some o) : CallR X (.builtin "repr") (rB X.K .repr) := cb_of fun pins s σ H x u Q G S d d' I ru r R hb k => by
  simp only [biM] at hb
  split at hb
  · rename_i p e
    split at hb
    · rename_i hz
      cases hb
      simp only [Bool.and_eq_true, Bool.not_eq_true', decide_eq_true_eq] at hz
      obtain ⟨⟨⟨z1, z2⟩, z3⟩, z4⟩ := hz
      obtain ⟨as, q⟩ := Dp.reads I p x u (r.dp e) ru
      have fin : Q (.str p.shown) H := fin0 k (.str _) R
      have any : ∀ h' tk t, (∀ b o, s.heap.get? b = some o → h'.get? b = some o) → EP X pins σ Q (.str p.shown t) { s with heap := h', toks := tk } := fun h' tk t hk => ⟨.str _, H, I.kept hk, ⟨_, rfl⟩, fin⟩
      have big : ∀ b, u = .ref b → wpAny (model X.prog X.w) X.A (call (.builtin "repr") [u]) (EP X pins σ Q) X.xe s := fun b e => by
        subst e
        exact repr_of_reads' q z1 (fun z => by rw [z2] at z; cases z) hg (by omega) (fun _ _ h => h) (fun h' t tk hk => any h' tk t hk) z4
      cases q with
      | none => exact PySem.P.repr_of_none (any _ _ _ fun _ _ h => h)
      | bool => exact PySem.P.repr_of_bool (any _ _ _ fun _ _ h => h)
      | int =>
        simp only [PyData.showable, decide_eq_true_eq] at z1
        exact PySem.P.repr_of_int z1 (any _ _ _ fun _ _ h => h)
      | str => exact PySem.P.repr_of_str (any _ _ _ fun _ _ h => h) z4
      | list => exact big _ rfl
      | tuple => exact big _ rfl
      | dict => exact big _ rfl
    · cases hb
  · rename_i e0
    split at hb
    · rename_i p e
      split at hb
      · rename_i hz
        cases hb
        simp only [Bool.and_eq_true, decide_eq_true_eq] at hz
        obtain ⟨⟨z1, z3⟩, z4⟩ := hz
        obtain ⟨ob, hob⟩ := sm
        obtain ⟨as, q, hs⟩ := r.readsR I (I.bs _ _ hob).2 ru e
        have fin : Q (.str p.shown) H := fin0 k (.str _) R
        have any : ∀ h' tk t, (∀ b o, s.heap.get? b = some o → h'.get? b = some o) → EP X pins σ Q (.str p.shown t) { s with heap := h', toks := tk } := fun h' tk t hk => ⟨.str _, H, I.kept hk, ⟨_, rfl⟩, fin⟩
        have big : ∀ b, u = .ref b → wpAny (model X.prog X.w) X.A (call (.builtin "repr") [u]) (EP X pins σ Q) X.xe s := fun b e => by
          subst e
          exact repr_of_reads' q z1 (fun _ => hs) hg (by omega) (fun _ _ h => h) (fun h' t tk hk => any h' tk t hk) z4
        cases q with
        | none => exact PySem.P.repr_of_none (any _ _ _ fun _ _ h => h)
        | bool => exact PySem.P.repr_of_bool (any _ _ _ fun _ _ h => h)
        | int =>
          simp only [PyData.showable, decide_eq_true_eq] at z1
          exact PySem.P.repr_of_int z1 (any _ _ _ fun _ _ h => h)
        | str => exact PySem.P.repr_of_str (any _ _ _ fun _ _ h => h) z4
        | list => exact big _ rfl
        | tuple => exact big _ rfl
        | dict => exact big _ rfl
      · cases hb
    · cases hb
theorem c_str : CallR X (.type "str") (rB X.K .str) := cb_of fun pins s σ H x u Q G S d d' I ru r R hb k => by
  cases d <;> simp only [biM, reduceCtorEq] at hb
  · cases hb
    have e : x = .non := by cases r with | base h => cases h; rfl
    subst e
    cases ru
    exact PySem.P.str_of_none ⟨.str _, H, I.tok _, ⟨_, rfl⟩, fin0 k (.str _) R⟩
  · split at hb
    · rename_i hz
      cases hb
      rw [r.toInt] at ru
      exact call_str_int pins s σ H _ _ Q I (vone ru) ⟨_, rfl, hz, fin0 k (.str _) R⟩
    · cases hb

def tyName : Ty → String
  | .int => "int"
  | .bool => "bool"
  | .str => "str"
  | .tuple => "tuple"
  | .list => "list"
  | .dict => "dict"
  | .tupleList => ""
def tyOfD : D → Option String
  | .non => some "NoneType"
  | .bl _ => some "bool"
  | .int _ => some "int"
  | .str _ => some "str"
  | .tup _ => some "tuple"
  | .lst _ | .own _ | .bor _ => some "list"
  | .dct _ => some "dict"
  | _ => none
theorem Rl.tyX {K : PySem.W.Frag} {G : Gh} {H : Hp} {v : V} {d : D} {n : String} (h : Rl K G H v d) (e : tyOfD d = some n) : TyX K H v (.type n) := by
  cases h with
  | base h =>
    cases h with
    | non => cases e; exact .base .non
    | bl b => cases e; exact .base (.bl b)
    | int i => cases e; exact .base (.int i)
    | str x => cases e; exact .base (.str x)
    | tup h r =>
      cases e
      rcases h with (h | ⟨o, h⟩) | ⟨o, its, n, h1, h2, _⟩
      · exact .base (.tup h)
      · exact .fTuple h
      · exact .kTuple h1 h2
    | lst h r => cases e; exact .base (.lst h.2)
    | scr _ _ => cases e
    | ref _ => cases e
    | exn0 _ _ => cases e
    | exn1 _ _ _ _ => cases e
    | dct z h => cases e; exact .base (.dK h)
    | kd _ _ _ _ _ => cases e
  | own h _ _ _ => cases e; exact .base (.lst h)
  | bor h _ _ _ => cases e; exact .base (.lst h)
  | okd => cases e
  | lam => cases e
theorem isi_kit : ∀ (t : Ty) (d : D) (n : String) (b : Bool), t ≠ .tupleList → tyOfD d = some n → isiD t d = some b → kitB n (tyName t) = some b := by
  intro t d n b ht h1 h2
  cases d <;> simp only [tyOfD, Option.some.injEq, reduceCtorEq] at h1 <;> subst h1 <;> cases t <;> first | exact absurd rfl ht | (simp only [isiD, Option.some.injEq] at h2; subst h2; decide +kernel)
theorem isiD_ty {t : Ty} {d : D} {b : Bool} (h : isiD t d = some b) : ∃ n, tyOfD d = some n := by
  cases d <;> first | exact ⟨_, rfl⟩ | (cases t <;> simp [isiD] at h)
def rIs (K : PySem.W.Frag) (t : Ty) (p : D → Option D) : List V → Hp → VK → Prop := fun xs H Q => ∃ x G S d d', xs = [x, .ty (tyName t)] ∧ Rl K G H x d ∧ RelS K G H S ∧ p d = some d' ∧ ∀ v G' H', Ext H G H G' H' → RlF K H G' H' v d' → RelS K G' H' S → Q v H'
theorem c_isi (t : Ty) (ht : t ≠ .tupleList) : CallR X (.builtin "isinstance") (rIs X.K t fun d => (isiD t d).map .bl) := by
  intro pins s σ H xs us Q I r ⟨x, G, S, d, d', e, r1, R, hb, k⟩
  subst e
  obtain ⟨b, hq, rfl⟩ := Option.map_eq_some_iff.mp hb
  obtain ⟨n, hn⟩ := isiD_ty hq
  exact call_isi pins s σ H _ us Q I r ⟨x, .ty (tyName t), .type n, .type (tyName t), b, rfl, .ty _, r1.tyX hn, kit_ty (isi_kit t d n b ht hn hq), fin0 k (.bl b) R⟩
theorem s_isi {W : WX} {a : Expr} {p p2 pos : Pos} {m : Env → M D} {nm : Str} (t : Ty) (ht : t ≠ .tupleList) (hT : PE X (.Name nm p2) (tC (.ty (tyName t)))) (hg : Gl X "isinstance") (hm : X.mg "isinstance" = none) (ha : PE X a (tE X.K W m))
    (h1 : starEach [a, .Name nm p2] X.env = (false, eval a X.env) :: starEach [.Name nm p2] X.env) :
    PE X (.Call (.Name "isinstance" p) [a, .Name nm p2] [] pos) (tE X.K W fun ρ => M.bnd (m ρ) fun x => M.ofO ((isiD t x).map .bl)) := by
  refine PE.imp (pe_callB (c_isi t ht) hg hm (by decide +kernel) (pa_cons ha (pa_cons hT pa_nil) h1) (by decide) (by decide) h1) fun σ H Q ⟨G, ρ, S, Hin, A, h⟩ => ?_
  refine tM_bnd rVal.mono A h fun v d G1 H1 S1 x1 A1 r1 h1 => ?_
  obtain ⟨z, hz, h2⟩ := Post.ofO h1
  exact ⟨v, G1, S1, d, z, rfl, r1.1, A1.st, hz, h2⟩

theorem s_var {W : WX} {x : Str} {i : Nat} {pos : Pos} (hp : PE X (.Name x pos) (tVar i)) : PE X (.Name x pos) (tE X.K W fun ρ => ldE ρ i) := by
  refine PE.imp hp fun σ H Q ⟨G, ρ, S, Hin, A, h⟩ => ?_
  have h : Post X.K W σ (rVal X.K) G H (ldE ρ i S) Q := h
  cases e : ρ[i]? with
  | none => simp only [ldE, e] at h; exact h.elim
  | some o =>
    cases o with
    | none => simp only [ldE, e] at h; exact h.elim
    | some d =>
      obtain ⟨v, h1, h2, h3, h4⟩ := A.env.slot i _ e
      have plain : d.isOw = false → Post X.K W σ (rVal X.K) G H (M.ret d S) Q → tVar i σ H Q := fun n h => ⟨v, h1, h.ret ⟨h2, fun q => absurd (n.symm.trans q) Bool.false_ne_true⟩ A.st⟩
      cases d <;> simp only [ldE, e] at h <;> first | exact plain rfl h | exact h.elim | skip
      obtain ⟨a, rfl, ha⟩ := h3 rfl
      refine ⟨_, h1, h.ret ⟨?_, fun e => nomatch e⟩ A.st⟩
      cases h2 with
      | base q => cases q
      | own q1 q2 q3 q4 => exact .bor q1 q2 q3 q4
theorem s_const {W : WX} {e : Expr} {v : V} {d : D} (hp : PE X e (tC v)) (r : ∀ K G H, Rl0 K G H v d) : PE X e (tE X.K W fun _ => M.ret d) :=
  PE.imp hp fun σ H Q ⟨G, ρ, S, Hin, A, h⟩ => h.ret (RlF.base (r _ _ _)) A.st
theorem s_ci {W : WX} {i : Int} {j : Nat} {pos : Pos} : PE X (.Constant (.int i) j pos) (tE X.K W fun _ => M.ret (.int i)) := s_const pe_int fun _ _ _ => .int i
theorem s_cs {W : WX} {x : Str} {j : Nat} {pos : Pos} : PE X (.Constant (.str x) j pos) (tE X.K W fun _ => M.ret (.str x)) := s_const pe_str fun _ _ _ => .str x
theorem s_cb {W : WX} {b : Bool} {j : Nat} {pos : Pos} : PE X (.Constant (.bool b) j pos) (tE X.K W fun _ => M.ret (.bl b)) := s_const pe_bl fun _ _ _ => .bl b
theorem s_cn {W : WX} {j : Nat} {pos : Pos} : PE X (.Constant .none j pos) (tE X.K W fun _ => M.ret .non) := s_const pe_non fun _ _ _ => .non
theorem s_neg {W : WX} {a : Expr} {pos : Pos} {m : Env → M D} (ha : PE X a (tE X.K W m)) : PE X (.UnaryOp .USub a pos) (tE X.K W fun ρ => M.bnd (m ρ) fun x => match x with | .int i => M.ret (.int (-i)) | _ => M.bad) := by
  refine PE.imp (pe_un un_neg ha) fun σ H Q ⟨G, ρ, S, Hin, A, h⟩ => ?_
  refine tM_bnd rVal.mono A h fun v d G1 H1 S1 x1 A1 r1 h1 => ?_
  cases d <;> first | exact h1.elim | skip
  exact ⟨_, r1.1.toInt, h1.ret (RlF.base (.int _)) A1.st⟩
theorem s_not {W : WX} {a : Expr} {pos : Pos} {m : Env → M D} (ha : PE X a (tE X.K W m)) : PE X (.UnaryOp .Not a pos) (tE X.K W fun ρ => M.bnd (m ρ) fun x => match x with | .bl b => M.ret (.bl (!b)) | _ => M.bad) := by
  refine PE.imp (pe_not ha) fun σ H Q ⟨G, ρ, S, Hin, A, h⟩ => ?_
  refine tM_bnd rVal.mono A h fun v d G1 H1 S1 x1 A1 r1 h1 => ?_
  cases d <;> first | exact h1.elim | skip
  exact ⟨_, r1.1.toBl, h1.ret (RlF.base (.bl _)) A1.st⟩
theorem s_and {W : WX} {a b : Expr} {rest : List Expr} {pos : Pos} {m1 m2 : Env → M D} (ha : PE X a (tE X.K W m1)) (hb : PE X (.BoolOp .And (b :: rest) pos) (tE X.K W m2)) :
    PE X (.BoolOp .And (a :: b :: rest) pos) (tE X.K W fun ρ => M.bnd (m1 ρ) fun x => match x with | .bl true => m2 ρ | .bl false => M.ret (.bl false) | _ => M.bad) := by
  refine PE.imp (pe_and ha hb) fun σ H Q ⟨G, ρ, S, Hin, A, h⟩ => ?_
  refine tM_bnd rVal.mono A h fun v d G1 H1 S1 x1 A1 r1 h1 => ?_
  cases d <;> first | exact h1.elim | skip
  rename_i c
  refine ⟨c, r1.1.toBl, ?_⟩
  cases c with
  | true => exact ⟨G1, ρ, S1, Hin, A1, h1⟩
  | false => exact h1.ret (RlF.base (.bl _)) A1.st
theorem s_or {W : WX} {a b : Expr} {rest : List Expr} {pos : Pos} {m1 m2 : Env → M D} (ha : PE X a (tE X.K W m1)) (hb : PE X (.BoolOp .Or (b :: rest) pos) (tE X.K W m2)) :
    PE X (.BoolOp .Or (a :: b :: rest) pos) (tE X.K W fun ρ => M.bnd (m1 ρ) fun x => match x with | .bl false => m2 ρ | .bl true => M.ret (.bl true) | _ => M.bad) := by
  refine PE.imp (pe_or ha hb) fun σ H Q ⟨G, ρ, S, Hin, A, h⟩ => ?_
  refine tM_bnd rVal.mono A h fun v d G1 H1 S1 x1 A1 r1 h1 => ?_
  cases d <;> first | exact h1.elim | skip
  rename_i c
  refine ⟨c, r1.1.toBl, ?_⟩
  cases c with
  | false => exact ⟨G1, ρ, S1, Hin, A1, h1⟩
  | true => exact h1.ret (RlF.base (.bl _)) A1.st

theorem truD_V {K : PySem.W.Frag} {G : Gh} {H : Hp} {v : V} {d : D} {k : Bool} (r : Rl K G H v d) (e : truD d = some k) : TruV K v H k := by
  have seqs : ∀ ds, d.seq? = some ds → k = !ds.isEmpty → TruV K v H k := fun ds e1 e2 => by
    obtain ⟨a, xs, rfl, ha, ra⟩ := r.toSeq e1
    have e3 : xs.isEmpty = ds.isEmpty := by cases ra <;> rfl
    rcases ha with ha | ha
    · exact .inl ⟨xs, ha, by rw [e3]; exact e2⟩
    · exact .inr (.inl ⟨xs, ha, by rw [e3]; exact e2⟩)
  cases d <;> simp only [truD, Option.some.injEq, reduceCtorEq] at e <;> first | exact seqs _ rfl e.symm | skip
  · rw [r.toNon]; exact e.symm
  · rw [r.toBl]; exact e.symm
  · rw [r.toInt]; exact e.symm
theorem s_tval {W : WX} {a : Expr} {m : Env → M D} (ha : PE X a (tE X.K W m)) (he : ∀ whole, isTrue a X.env whole = (do let v ← whole; standAt a.pos; holding [v] (truthy v))) : PT X a (tT X.K W fun ρ => M.bnd (m ρ) fun x => M.ofO (truD x)) := by
  refine PT.imp (pt_truth ha he) fun σ H Q ⟨G, ρ, S, Hin, A, h⟩ => ?_
  refine tM_bnd rEq.mono A h fun v d G1 H1 S1 x1 A1 r1 h1 => ?_
  obtain ⟨k, hk, h2⟩ := Post.ofO h1
  exact ⟨k, truD_V r1.1 hk, h2 k G1 H1 (Ext.refl _ _ _) rfl A1.st⟩
theorem s_tcmp {W : WX} {a b : Expr} {pos : Pos} {m1 m2 : Env → M D} (hu : X.A.units + 65 < cLine) (o : COp) (hm : behindInMarks (copOf o) b = false) (ha : PE X a (tE X.K W m1)) (hb : PE X b (tE X.K W m2)) :
    PT X (.Compare a [copOf o] [b] pos) (tT X.K W fun ρ => M.bnd (M.bnd (m1 ρ) fun x => M.bnd (m2 ρ) fun y => M.ofO ((cmpD o x y).map .bl)) fun x => M.ofO (truD x)) := by
  refine PT.imp (pt_cmpR (o_cmp hu o) ha hb hm) fun σ H Q ⟨G, ρ, S, Hin, A, h⟩ => ?_
  have h : Post X.K W σ (rEq Bool) G H (M.bnd (m1 ρ) (fun x => M.bnd (m2 ρ) fun y => M.ofO (cmpD o x y)) S) Q := by
    have e : M.bnd (M.bnd (m1 ρ) fun x => M.bnd (m2 ρ) fun y => M.ofO ((cmpD o x y).map .bl)) (fun x => M.ofO (truD x)) = M.bnd (m1 ρ) (fun x => M.bnd (m2 ρ) fun y => M.ofO (cmpD o x y)) := by
      funext S
      unfold M.bnd
      cases m1 ρ S with
      | bad => rfl
      | exc _ _ => rfl
      | ok x S1 =>
        dsimp only
        cases m2 ρ S1 with
        | bad => rfl
        | exc _ _ => rfl
        | ok y S2 =>
          dsimp only
          cases cmpD o x y with
          | none => rfl
          | some k => rfl
    rw [← e]
    exact h
  refine tM_bnd rEq.mono A h fun v d G1 H1 S1 x1 A1 r1 h1 => ?_
  refine tM_bnd rEq.mono A1 h1 fun u e G2 H2 S2 x2 A2 r2 h2 => ?_
  obtain ⟨k, hk, h3⟩ := Post.ofO h2
  exact ⟨G2, S2, d, e, .bl k, r1.1.ext x2, r2.1, A2.st, by show (cmpD o d e).map D.bl = _; rw [hk]; rfl, fun w G3 H3 x3 r3 R3 => ⟨k, r3.1.toBl, h3 k G3 H3 x3 rfl R3⟩⟩
theorem s_tand {W : WX} {a b : Expr} {rest : List Expr} {pos : Pos} {m1 m2 : Env → M Bool} (ha : PT X a (tT X.K W m1)) (hb : PW X (.BoolOp .And (b :: rest) pos) (tT X.K W m2)) :
    PW X (.BoolOp .And (a :: b :: rest) pos) (tT X.K W fun ρ => M.bnd (m1 ρ) fun k => if k then m2 ρ else M.ret false) := by
  refine PW.imp (pw_and ha hb) fun σ H Q ⟨G, ρ, S, Hin, A, h⟩ => ?_
  refine tM_bnd rEq.mono A h fun v d G1 H1 S1 x1 A1 r1 h1 => ?_
  cases r1
  cases v with
  | true => exact ⟨G1, ρ, S1, Hin, A1, h1⟩
  | false => exact h1.ret rfl A1.st
theorem s_tor {W : WX} {a b : Expr} {rest : List Expr} {pos : Pos} {m1 m2 : Env → M Bool} (ha : PT X a (tT X.K W m1)) (hb : PW X (.BoolOp .Or (b :: rest) pos) (tT X.K W m2)) :
    PW X (.BoolOp .Or (a :: b :: rest) pos) (tT X.K W fun ρ => M.bnd (m1 ρ) fun k => if k then M.ret true else m2 ρ) := by
  refine PW.imp (pw_or ha hb) fun σ H Q ⟨G, ρ, S, Hin, A, h⟩ => ?_
  refine tM_bnd rEq.mono A h fun v d G1 H1 S1 x1 A1 r1 h1 => ?_
  cases r1
  cases v with
  | false => exact ⟨G1, ρ, S1, Hin, A1, h1⟩
  | true => exact h1.ret rfl A1.st
theorem s_tnot {W : WX} {a : Expr} {pos : Pos} {m : Env → M Bool} (ha : PT X a (tT X.K W m)) : PT X (.UnaryOp .Not a pos) (tT X.K W fun ρ => M.bnd (m ρ) fun k => M.ret (!k)) := by
  refine PT.imp (pt_not ha) fun σ H Q ⟨G, ρ, S, Hin, A, h⟩ => ?_
  refine tM_bnd rEq.mono A h fun v d G1 H1 S1 x1 A1 r1 h1 => ?_
  cases r1
  exact h1.ret rfl A1.st
theorem s_ite {W : WX} {c a b : Expr} {pos : Pos} {mc : Env → M Bool} {m1 m2 : Env → M D} (hc : PT X c (tT X.K W mc)) (ha : PE X a (tE X.K W m1)) (hb : PE X b (tE X.K W m2)) :
    PE X (.IfExp c a b pos) (tE X.K W fun ρ => M.bnd (mc ρ) fun k => if k then m1 ρ else m2 ρ) := by
  refine PE.imp (pe_ifExp hc ha hb) fun σ H Q ⟨G, ρ, S, Hin, A, h⟩ => ?_
  refine tM_bnd rVal.mono A h fun v d G1 H1 S1 x1 A1 r1 h1 => ?_
  cases r1
  cases v with
  | true => exact ⟨G1, ρ, S1, Hin, A1, h1⟩
  | false => exact ⟨G1, ρ, S1, Hin, A1, h1⟩

def r0 (K : PySem.W.Frag) : Rel D V := fun _ G H v d => Rl0 K G H v d
theorem r0.mono {K : PySem.W.Frag} : RelMono (r0 K) := fun _ _ _ _ _ _ _ h => h
/-- a value that is handed on: a list is changed no more from here -/
theorem s_hand {W : WX} {e : Expr} {m : Env → M D} (he : PE X e (tE X.K W m)) : PE X e (tM X.K W (r0 X.K) fun ρ => M.bnd (m ρ) handM) := by
  refine PE.imp he fun σ H Q ⟨G, ρ, S, Hin, A, h⟩ => ⟨G, ρ, S, Hin, A, ?_⟩
  have h : Post X.K W σ (r0 X.K) G H (M.bnd (m ρ) handM S) Q := h
  unfold M.bnd at h
  cases q : m ρ S with
  | bad => rw [q] at h; exact h
  | exc x S' => rw [q] at h; exact h
  | ok d S' =>
    rw [q] at h
    intro v G' H' x r R
    have h : Post X.K W σ (r0 X.K) G H (M.ofO d.hand S') Q := h
    obtain ⟨d', hd, h⟩ := Post.ofO h
    have h : ∀ v G' H', Ext H G H G' H' → Rl0 X.K G' H' v d' → RelS X.K G' H' S' → Q v H' := h
    obtain ⟨r1, r2⟩ := r
    cases r1 with
    | base r1 =>
      refine h v G' H' x ?_ R
      exact Rl.hand (.base r1) hd fun xs e => by subst e; cases r1
    | own h1 h2 h3 h4 =>
      obtain ⟨b, e, ha⟩ := r2 rfl
      injection e with e
      subst e
      cases hd
      refine h _ (G'.fz _) H' (x.trans (Ext.fz ha)) ?_ (R.fz (by rw [h1]; simp) h3)
      exact .lst ⟨.inr rfl, h1⟩ (h4.ext (Ext.fz (B := H) ha))
    | bor _ _ _ _ => cases hd
    | okd => cases hd
    | lam => cases hd
theorem s_anil {W : WX} : PA X [] (tA X.K W fun _ => M.ret []) := PA.imp pa_nil fun σ H Q ⟨G, ρ, S, Hin, A, h⟩ => h.ret .nil A.st
theorem s_acons {W : WX} {e : Expr} {es : List Expr} {m1 : Env → M D} {m2 : Env → M (List D)} (he : PE X e (tE X.K W m1)) (hr : PA X es (tA X.K W m2)) (hs : starEach (e :: es) X.env = (false, eval e X.env) :: starEach es X.env) :
    PA X (e :: es) (tA X.K W fun ρ => M.bnd (M.bnd (m1 ρ) handM) fun x => M.bnd (m2 ρ) fun xs => M.ret (x :: xs)) := by
  refine PA.imp (pa_cons (s_hand he) hr hs) fun σ H Q ⟨G, ρ, S, Hin, A, h⟩ => ?_
  refine tM_bnd rVals.mono A h fun v d G1 H1 S1 x1 A1 r1 h1 => ?_
  refine tM_bnd rVals.mono A1 h1 fun vs ds G2 H2 S2 x2 A2 r2 h2 => ?_
  exact h2.ret (.cons (Rl0.ext x2 r1) r2) A2.st
theorem s_tup {W : WX} {es : List Expr} {k : Nat} {pos : Pos} {m : Env → M (List D)} (h : PA X es (tA X.K W m)) : PE X (.Tuple es k pos) (tE X.K W fun ρ => M.bnd (m ρ) fun xs => if xs.length ≤ sizeLine then M.ret (.tup xs) else M.bad) := by
  refine PE.imp (pe_tup h) fun σ H Q ⟨G, ρ, S, Hin, A, h⟩ => ?_
  refine tM_bnd rVal.mono A h fun vs ds G1 H1 S1 x1 A1 r1 h1 => ?_
  by_cases hz : ds.length ≤ sizeLine
  · rw [if_pos hz] at h1
    exact ⟨by rw [Rls.length r1]; exact hz, fun p hp => finT h1 r1 A1.st hp⟩
  · rw [if_neg hz] at h1
    exact h1.elim
theorem isiT_kit {K : PySem.W.Frag} : ∀ (d : D) (n : String) (b : Bool), tyOfD d = some n → isiD .tupleList d = some b → PySem.W.kitAny K (.type n) [.type "tuple", .type "list"] = some b := by
  intro d n b h1 h2
  cases d <;> simp only [tyOfD, Option.some.injEq, reduceCtorEq] at h1 <;> subst h1 <;> simp only [isiD, Option.some.injEq] at h2 <;> subst h2 <;>
    first
    | exact kitAny_cons (b := true) (kit_ty (by decide +kernel)) (fun z => by cases z) (fun _ => rfl)
    | exact kitAny_cons (b := false) (kit_ty (by decide +kernel)) (fun _ => kitAny_cons (b := true) (kit_ty (by decide +kernel)) (fun z => by cases z) (fun _ => rfl)) (fun z => by cases z)
    | exact kitAny_cons (b := false) (kit_ty (by decide +kernel)) (fun _ => kitAny_cons (b := false) (kit_ty (by decide +kernel)) (fun _ => kitAny_nil) (fun z => by cases z)) (fun z => by cases z)
theorem s_isiT {W : WX} {a : Expr} {p p1 p2 tpos pos : Pos} {kk : Nat} {m : Env → M D} (hT : PE X (.Name "tuple" p1) (tC (.ty "tuple"))) (hL : PE X (.Name "list" p2) (tC (.ty "list"))) (hg : Gl X "isinstance") (hm : X.mg "isinstance" = none) (ha : PE X a (tE X.K W m))
    (h1 : starEach [a, .Tuple [.Name "tuple" p1, .Name "list" p2] kk tpos] X.env = (false, eval a X.env) :: starEach [.Tuple [.Name "tuple" p1, .Name "list" p2] kk tpos] X.env) :
    PE X (.Call (.Name "isinstance" p) [a, .Tuple [.Name "tuple" p1, .Name "list" p2] kk tpos] [] pos) (tE X.K W fun ρ => M.bnd (m ρ) fun x => M.ofO ((isiD .tupleList x).map .bl)) := by
  have ht : PE X (.Tuple [.Name "tuple" p1, .Name "list" p2] kk tpos) _ := pe_tup (pa_cons hT (pa_cons hL pa_nil))
  refine PE.imp (pe_callB call_isiT hg hm (by decide +kernel) (pa_cons ha (pa_cons ht pa_nil) h1) (by decide) (by decide) h1) fun σ H Q ⟨G, ρ, S, Hin, A, h⟩ => ?_
  refine tM_bnd rVal.mono A h fun v d G1 H1 S1 x1 A1 r1 h1 => ?_
  obtain ⟨z, hz, h2⟩ := Post.ofO h1
  obtain ⟨b, hq, rfl⟩ := Option.map_eq_some_iff.mp hz
  obtain ⟨n, hn⟩ := isiD_ty hq
  refine ⟨by decide, fun q hq' => ?_⟩
  have e1 := Ext.new (o := .tup [.ty "tuple", .ty "list"]) A1.st hq'
  exact ⟨v, q, [.ty "tuple", .ty "list"], .type n, [.type "tuple", .type "list"], b, rfl, upd_same, .cons (.ty _) (.cons (.ty _) .nil), (r1.1.ext e1).tyX hn, isiT_kit d n b hn hq, h2 _ G1 _ e1 (RlF.base (.bl b)) (A1.st.new hq')⟩
theorem s_lst {W : WX} {es : List Expr} {pos : Pos} {m : Env → M (List D)} (h : PA X es (tA X.K W m)) : PE X (.List es pos) (tE X.K W fun ρ => M.bnd (m ρ) fun xs => if xs.length ≤ sizeLine then M.ret (.own xs) else M.bad) := by
  refine PE.imp (pe_lst h) fun σ H Q ⟨G, ρ, S, Hin, A, h⟩ => ?_
  refine tM_bnd rVal.mono A h fun vs ds G1 H1 S1 x1 A1 r1 h1 => ?_
  by_cases hz : ds.length ≤ sizeLine
  · rw [if_pos hz] at h1
    exact ⟨by rw [Rls.length r1]; exact hz, fun p hp => finL h1 r1 A1.st hp⟩
  · rw [if_neg hz] at h1
    exact h1.elim
end
end WB
namespace WB
open PySem L2

section
variable {K : PySem.W.Frag} {Hin : Hp} {G G' : Gh} {H H' : Hp} {σ : L2.St} {ρ : Env}
/-- own lists of the slots stand in B -/
def OwnIn (B : Hp) (σ : L2.St) (ρ : Env) : Prop := ∀ (i : Nat) (d : D) (a : Addr), d.isOw = true → ρ[i]? = some (some d) → σ[i]? = some (some (.ref a)) → B a ≠ none
theorem Rl.ow {v : V} {d : D} (h : Rl K G H v d) (w : d.isOw = true) : ∃ a o, v = .ref a ∧ H a = some o ∧ ¬ G.Z a ∧ a ∉ G.ids ∧ ¬ Fx o ∧ (∀ ps, o ≠ .tbl ps) := by
  cases h with
  | base q => cases q <;> cases w
  | own q1 q2 q3 _ => exact ⟨_, _, rfl, q1, q2, q3, fun z => z, fun _ => nofun⟩
  | bor _ _ _ _ => cases w
  | okd q1 q2 q3 _ _ _ => exact ⟨_, _, rfl, q1, q2, q3, fx_kd, kd_tbl⟩
  | lam _ _ _ => cases w
theorem RelE.ownIn (E : RelE K Hin G H σ ρ) : OwnIn H σ ρ := fun i d a w e1 e2 => by
  obtain ⟨v, h1, h2, h3, h4⟩ := E.slot i _ e1
  obtain ⟨b, o, e, q, _⟩ := h2.ow w
  subst e
  rw [h1] at e2
  cases e2
  rw [q]
  simp
theorem RelE.extB {B : Hp} (E : RelE K Hin G H σ ρ) (o : OwnIn B σ ρ) (e : Ext B G H G' H') : RelE K Hin G' H' σ ρ where
  len := E.len
  slot := fun i d h => by
    obtain ⟨v, h1, h2, h3, h4⟩ := E.slot i d h
    refine ⟨v, h1, ?_, h3, h4⟩
    cases h2 with
    | base q => exact .base (q.ext e)
    | own q1 q2 q3 q4 =>
      have hb := o i _ _ rfl h h1
      exact .own (e.keep _ _ hb q1 q3 (fun _ => nofun)) (fun z => (e.zn _ z).elim q2 hb) (fun z => (e.idn _ z).elim q3 hb) (q4.ext e)
    | bor _ _ _ _ => exact absurd rfl (h4 _)
    | okd q1 q2 q3 q4 q5 q6 =>
      have hb := o i _ _ rfl h h1
      exact .okd (e.keep _ _ hb q1 q3 kd_tbl) (fun z => (e.zn _ z).elim q2 hb) (fun z => (e.idn _ z).elim q3 hb) q4 (q5.ext e) (q6.ext e)
    | lam q1 q2 q3 => exact .lam (by rw [e.tt]; exact q1) (e.fx _ _ fx_code q2) fun i d z => let ⟨v, r1, r2⟩ := q3 i d z; ⟨v, r1, r2.ext e⟩
  sep := E.sep
  hin := fun a h => e.trk a (E.hin a h)
theorem OwnIn.set0 {B : Hp} (o : OwnIn B σ ρ) {i : Nat} {v : V} {d : D} (hi : i < ρ.length) (hd : d.isOw = false) : OwnIn B (σ.set i (some v)) (ρ.set i (some d)) := fun j xs a w e1 e2 => by
  by_cases e : i = j
  · subst e
    rw [List.getElem?_set_self hi] at e1
    cases e1
    exact absurd (hd.symm.trans w) Bool.false_ne_true
  · rw [List.getElem?_set_ne e] at e1 e2
    exact o j xs a w e1 e2
theorem getSet {α : Type} {l : List (Option α)} {i j : Nat} {x : α} (h : (l.set i none)[j]? = some (some x)) : l[j]? = some (some x) ∧ j ≠ i := by
  by_cases e : i = j
  · subst e
    rw [List.getElem?_set_self'] at h
    cases q : l[i]? with
    | none => rw [q] at h; cases h
    | some y => rw [q] at h; cases h
  · rw [List.getElem?_set_ne e] at h
    exact ⟨h, fun z => e z.symm⟩
theorem RelE.setNone (E : RelE K Hin G H σ ρ) (i : Nat) : RelE K Hin G H (σ.set i none) (ρ.set i none) where
  len := by rw [List.length_set, List.length_set]; exact E.len
  slot := fun j d h => by
    obtain ⟨h, hj⟩ := getSet h
    obtain ⟨v, h1, h2⟩ := E.slot j d h
    exact ⟨v, by rw [List.getElem?_set_ne (fun z => hj z.symm)]; exact h1, h2⟩
  sep := fun j k a xs ys hjk w1 w2 h1 h2 h3 h4 => by
    obtain ⟨h1, _⟩ := getSet h1
    obtain ⟨h2, _⟩ := getSet h2
    exact E.sep j k a xs ys hjk w1 w2 h1 h2 (getSet h3).1 (getSet h4).1
  hin := E.hin
theorem RelE.wipe (E : RelE K Hin G H σ ρ) : ∀ vs : List Nat, RelE K Hin G H (L2.wipe σ vs) (wipeE ρ vs)
  | [] => E
  | v :: vs => (RelE.wipe E vs).setNone v
theorem OwnIn.wipe {B : Hp} (o : OwnIn B σ ρ) : ∀ vs : List Nat, OwnIn B (L2.wipe σ vs) (wipeE ρ vs)
  | [] => o
  | v :: vs => fun j xs a w e1 e2 => OwnIn.wipe o vs j xs a w (getSet e1).1 (getSet e2).1
/-- a slot takes a value that is no list of its own -/
theorem RelE.set0 (E : RelE K Hin G H σ ρ) {i : Nat} {v : V} {d : D} (hi : i < ρ.length) (r : Rl0 K G H v d) : RelE K Hin G H (σ.set i (some v)) (ρ.set i (some d)) where
  len := by rw [List.length_set, List.length_set]; exact E.len
  slot := fun j d' h => by
    by_cases e : i = j
    · subst e
      rw [List.getElem?_set_self hi] at h
      cases h
      exact ⟨v, List.getElem?_set_self (by rw [E.len]; exact hi), .base r, (fun w => by cases r <;> cases w), fun xs e => by subst e; (cases r)⟩
    · rw [List.getElem?_set_ne e] at h
      rw [List.getElem?_set_ne e]
      exact E.slot j d' h
  sep := fun j k a xs ys hjk w1 w2 h1 h2 h3 h4 => by
    have no : ∀ (l : Nat) z, z.isOw = true → (ρ.set i (some d))[l]? = some (some z) → l ≠ i ∧ ρ[l]? = some (some z) := fun l z w h => by
      by_cases e : i = l
      · subst e
        rw [List.getElem?_set_self hi] at h
        cases h
        cases r <;> cases w
      · rw [List.getElem?_set_ne e] at h
        exact ⟨fun z => e z.symm, h⟩
    obtain ⟨n1, h1⟩ := no _ _ w1 h1
    obtain ⟨n2, h2⟩ := no _ _ w2 h2
    rw [List.getElem?_set_ne (fun z => n1 z.symm)] at h3
    rw [List.getElem?_set_ne (fun z => n2 z.symm)] at h4
    exact E.sep j k a xs ys hjk w1 w2 h1 h2 h3 h4
  hin := E.hin
/-- a slot takes a new thing that it alone has -/
theorem RelE.setOw (E : RelE K Hin G H σ ρ) {i : Nat} {a : Addr} {d : D} (hi : i < ρ.length) (r : Rl K G H (.ref a) d) (w : d.isOw = true) (h5 : Hin a = none)
    (h6 : ∀ (j : Nat) e, j ≠ i → e.isOw = true → ρ[j]? = some (some e) → σ[j]? ≠ some (some (.ref a))) : RelE K Hin G H (σ.set i (some (.ref a))) (ρ.set i (some d)) where
  len := by rw [List.length_set, List.length_set]; exact E.len
  slot := fun j d' h => by
    by_cases e : i = j
    · subst e
      rw [List.getElem?_set_self hi] at h
      cases h
      exact ⟨_, List.getElem?_set_self (by rw [E.len]; exact hi), r, fun _ => ⟨a, rfl, h5⟩, fun xs e => by subst e; cases w⟩
    · rw [List.getElem?_set_ne e] at h
      rw [List.getElem?_set_ne e]
      exact E.slot j d' h
  sep := fun j k b ys zs hjk w1 w2 e1 e2 e3 e4 => by
    by_cases ej : i = j
    · subst ej
      rw [List.getElem?_set_ne hjk] at e2 e4
      rw [List.getElem?_set_self (by rw [E.len]; exact hi)] at e3
      cases e3
      exact h6 k zs (Ne.symm hjk) w2 e2 e4
    · rw [List.getElem?_set_ne ej] at e1 e3
      by_cases ek : i = k
      · subst ek
        rw [List.getElem?_set_self (by rw [E.len]; exact hi)] at e4
        cases e4
        exact h6 j ys (fun z => ej z.symm) w1 e1 e3
      · rw [List.getElem?_set_ne ek] at e2 e4
        exact E.sep j k b ys zs hjk w1 w2 e1 e2 e3 e4
  hin := E.hin
end

mutual
def T.slots : T → List Nat
  | .name i => [i]
  | .tup ts => ts.slots
def Ts.slots : Ts → List Nat
  | .nil => []
  | .cons t r => t.slots ++ r.slots
end
def tG (K : PySem.W.Frag) (t : T) : TG := fun v σ H Q => ∃ G d ρ ρ' S Hin, At K Hin G H σ ρ S ∧ Rl0 K G H v d ∧ asgT t d ρ = some ρ' ∧
  ∀ σ', At K Hin G H σ' ρ' S → (∀ vs, (∀ i ∈ t.slots, i ∈ vs) → wipe σ' vs = wipe σ vs) → (∀ B, OwnIn B σ ρ → OwnIn B σ' ρ') → Q σ' H
def tGs (K : PySem.W.Frag) (t : Ts) : TGs := fun vs σ H Q => ∃ G ds ρ ρ' S Hin, At K Hin G H σ ρ S ∧ Rls K G H vs ds ∧ asgTs t ds ρ = some ρ' ∧
  ∀ σ', At K Hin G H σ' ρ' S → (∀ vs, (∀ i ∈ t.slots, i ∈ vs) → wipe σ' vs = wipe σ vs) → (∀ B, OwnIn B σ ρ → OwnIn B σ' ρ') → Q σ' H
theorem PG.imp {X : Cx} {e : Expr} {t t' : TG} (h : PG X e t) (k : ∀ v σ H Q, t' v σ H Q → t v σ H Q) : PG X e t' := ⟨fun pins s σ H v u Q I r q => h.run pins s σ H v u Q I r (k _ _ _ _ q)⟩
theorem PGs.imp {X : Cx} {e : List Expr} {t t' : TGs} (h : PGs X e t) (k : ∀ v σ H Q, t' v σ H Q → t v σ H Q) : PGs X e t' := ⟨fun pins s σ H v u Q I r q => h.run pins s σ H v u Q I r (k _ _ _ _ q)⟩
theorem wipe_set_mem {σ : L2.St} {i : Nat} {x : Option V} : ∀ {vs : List Nat}, i ∈ vs → wipe (σ.set i x) vs = wipe σ vs
  | [], h => by cases h
  | v :: vs, h => by
    show (wipe (σ.set i x) vs).set v none = (wipe σ vs).set v none
    by_cases hm : i ∈ vs
    · rw [wipe_set_mem hm]
    · have e : i = v := (List.mem_cons.mp h).resolve_right hm
      subst e
      have comm : ∀ (vs : List Nat), i ∉ vs → wipe (σ.set i x) vs = (wipe σ vs).set i x := by
        intro vs
        induction vs with
        | nil => intro _; rfl
        | cons w ws ih =>
          intro hn
          have h1 : i ≠ w := fun z => hn (by simp [z])
          have h2 : i ∉ ws := fun z => hn (by simp [z])
          show (wipe (σ.set i x) ws).set w none = ((wipe σ ws).set w none).set i x
          rw [ih h2, List.set_comm _ _ h1]
      rw [comm vs hm, List.set_set]
theorem wipe_wipe {σ : L2.St} : ∀ {us vs : List Nat}, (∀ i ∈ us, i ∈ vs) → wipe (wipe σ us) vs = wipe σ vs
  | [], _, _ => rfl
  | u :: us, vs, h => by
    show wipe ((wipe σ us).set u none) vs = _
    rw [wipe_set_mem (h u (by simp)), wipe_wipe fun i hi => h i (by simp [hi])]
section
variable {X : Cx}
theorem g_name {x : Str} {i : Nat} {pos : Pos} (h : PG X (.Name x pos) (gName i)) : PG X (.Name x pos) (tG X.K (.name i)) := by
  refine PG.imp h fun v σ H Q ⟨G, d, ρ, ρ', S, Hin, A, r, e, k⟩ => ?_
  simp only [asgT] at e
  split at e
  · rename_i hi
    cases e
    exact k _ ⟨A.env.set0 hi r, A.st⟩ (fun vs hv => wipe_set_mem (hv i (by simp [T.slots]))) fun B o => o.set0 hi (by cases r <;> rfl)
  · cases e
theorem g_nil : PGs X [] (tGs X.K .nil) := by
  refine PGs.imp pgs_nil fun v σ H Q ⟨G, d, ρ, ρ', S, Hin, A, r, e, k⟩ => ?_
  cases d with
  | nil =>
    cases r
    simp only [asgTs, Option.some.injEq] at e
    subst e
    exact ⟨rfl, k σ A (fun _ _ => rfl) fun _ o => o⟩
  | cons _ _ => simp [asgTs] at e
theorem g_cons {e : Expr} {es : List Expr} {t : T} {ts : Ts} (h1 : PG X e (tG X.K t)) (h2 : PGs X es (tGs X.K ts)) (hs : (assignEach (e :: es) X.env).map (·.2) = assign e X.env :: (assignEach es X.env).map (·.2)) : PGs X (e :: es) (tGs X.K (.cons t ts)) := by
  refine PGs.imp (pgs_cons h1 h2 hs) fun v σ H Q ⟨G, ds, ρ, ρ', S, Hin, A, r, e, k⟩ => ?_
  cases r with
  | nil => simp [asgTs] at e
  | cons r1 r2 =>
    simp only [asgTs] at e
    obtain ⟨ρ1, e1, e2⟩ := Option.bind_eq_some_iff.mp e
    refine ⟨_, _, rfl, G, _, ρ, ρ1, S, Hin, A, r1, e1, fun σ1 A1 w1 o1 => ⟨G, _, ρ1, ρ', S, Hin, A1, r2, e2, fun σ2 A2 w2 o2 => k σ2 A2 (fun vs hv => ?_) fun B o => o2 B (o1 B o)⟩⟩
    rw [w2 vs fun i hi => hv i (by simp [Ts.slots, hi]), w1 vs fun i hi => hv i (by simp [Ts.slots, hi])]
def Ts.len : Ts → Nat
  | .nil => 0
  | .cons _ r => r.len + 1
theorem asgTs_length : ∀ {ts : Ts} {ds : List D} {ρ ρ' : Env}, asgTs ts ds ρ = some ρ' → ds.length = ts.len
  | .nil, [], _, _, _ => rfl
  | .nil, _ :: _, _, _, e => by simp [asgTs] at e
  | .cons _ _, [], _, _, e => by simp [asgTs] at e
  | .cons t r, d :: ds, ρ, ρ', e => by
    simp only [asgTs] at e
    obtain ⟨ρ1, e1, e2⟩ := Option.bind_eq_some_iff.mp e
    rw [List.length_cons, asgTs_length e2] <;> rfl
theorem g_tup {es : List Expr} {ts : Ts} {k : Nat} {pos : Pos} (hc : X.calm = true) (h : PGs X es (tGs X.K ts)) (hn : (assignEach es X.env).length = ts.len) (hst : (assignEach es X.env).findIdx? (·.1) = none) : PG X (.Tuple es k pos) (tG X.K (.tup ts)) := by
  refine PG.imp (pg_tup hc h hn hst) fun v σ H Q ⟨G, d, ρ, ρ', S, Hin, A, r, e, k⟩ => ?_
  cases r with
  | tup h1 r1 =>
    simp only [asgT] at e
    exact ⟨_, _, rfl, h1, by rw [r1.length]; exact asgTs_length e, G, _, ρ, ρ', S, Hin, A, r1, e, k⟩
  | _ => simp [asgT] at e
end

def noB : Hp := fun _ => none
def Wk (K : PySem.W.Frag) (G : Gh) (H : Hp) (J : It) (xs : List D) : Prop := ∀ G2 H2, Ext noB G H G2 H2 → (∀ (i : Nat) d, xs[i]? = some d → J.go i H2 ∧ ∀ x H3, J.yld i H2 x H3 → (∀ a o, H2 a = some o → H3 a = some o) ∧ (∀ S, RelS K G2 H2 S → Rl0 K G2 H3 x d)) ∧ ∀ i, xs.length ≤ i → J.stop i H2
def PostI (K : PySem.W.Frag) (W : WX) (σ : L2.St) (G : Gh) (H : Hp) (r : WB.R (List D)) (Q : It → Hp → Prop) : Prop := match r with
  | .bad => False
  | .ok xs S' => ∀ J G' H', Ext H G H G' H' → Wk K G' H' J xs → RelS K G' H' S' → Q J H'
  | .exc x S' => ∀ cls dd G' H', Ext H G H G' H' → XRel K G' H' x cls dd → RelS K G' H' S' → W cls dd σ H'
def tI (K : PySem.W.Frag) (W : WX) (m : Env → M (List D)) : TI := fun σ H Q => ∃ G ρ S Hin, At K Hin G H σ ρ S ∧ PostI K W σ G H (m ρ S) Q
theorem PI.imp {X : Cx} {tg e : Expr} {t t' : TI} (h : PI X tg e t) (k : ∀ σ H Q, t' σ H Q → t σ H Q) : PI X tg e t' := ⟨fun pins s σ H Q I q => h.run pins s σ H Q I (k σ H Q q)⟩
theorem PI.or {X : Cx} {tg e : Expr} {t t' : TI} (h : PI X tg e t) (h' : PI X tg e t') : PI X tg e (fun σ H Q => t σ H Q ∨ t' σ H Q) := ⟨fun pins s σ H Q I q => q.elim (h.run pins s σ H Q I) (h'.run pins s σ H Q I)⟩
theorem PostI.from {K : PySem.W.Frag} {W : WX} {σ : L2.St} {G G1 : Gh} {H H1 : Hp} {r : WB.R (List D)} {Q : It → Hp → Prop} (e : Ext H G H G1 H1) (h : PostI K W σ G H r Q) : PostI K W σ G1 H1 r Q := by
  cases r with
  | bad => exact h
  | ok d S' => exact fun v G' H' e' q r => h v G' H' (e.seq e') q r
  | exc x S' => exact fun cls dd G' H' e' q r => h cls dd G' H' (e.seq e') q r
/-- one piece, then what is walked -/
theorem tI_bnd {K : PySem.W.Frag} {W : WX} {σ : L2.St} {α β : Type} {Ra : Rel α β} {Hin : Hp} {G : Gh} {H : Hp} {ρ : Env} {S : Store} {m : Env → M α} {f : α → M (List D)} {Q : It → Hp → Prop}
    (A : At K Hin G H σ ρ S) (h : PostI K W σ G H (M.bnd (m ρ) f S) Q) {Q' : β → Hp → Prop}
    (k : ∀ v d G1 H1 S1, Ext H G H G1 H1 → At K Hin G1 H1 σ ρ S1 → Ra H G1 H1 v d → PostI K W σ G1 H1 (f d S1) Q → Q' v H1) : tM K W Ra m σ H Q' := by
  refine ⟨G, ρ, S, Hin, A, ?_⟩
  unfold M.bnd at h
  cases e : m ρ S with
  | bad => rw [e] at h; exact h
  | exc x S' => rw [e] at h; exact h
  | ok d S' =>
    rw [e] at h
    exact fun v G' H' x q r => k v d G' H' S' x ⟨A.env.ext x, r⟩ q (PostI.from x h)
theorem PostI.ret {K : PySem.W.Frag} {W : WX} {σ : L2.St} {G : Gh} {H : Hp} {S : Store} {xs : List D} {Q : It → Hp → Prop} (h : PostI K W σ G H (M.ret xs S) Q) {J : It} (r : Wk K G H J xs) (s : RelS K G H S) : Q J H := h J G H (Ext.refl _ _ _) r s
section
variable {X : Cx} {K : PySem.W.Frag} {G : Gh} {H : Hp}
theorem wk_list {a : Addr} {vs : List V} {ds : List D} (h : FzL G H a vs) (r : Rls K G H vs ds) : Wk K G H (Itl K a) ds := fun G2 H2 e => by
  have hs : SqL K H2 a vs := SqL.of (h.ext e).2
  refine ⟨fun i d hd => ?_, fun i hi => ⟨vs, hs, by rw [r.length]; exact hi⟩⟩
  obtain ⟨v, hv, rv⟩ := r.get hd
  refine ⟨⟨vs, v, hs, hv⟩, fun x H3 ⟨e3, q⟩ => ?_⟩
  subst e3
  have e4 := q vs hs
  rw [hv] at e4
  cases e4
  exact ⟨fun _ _ h => h, fun _ _ => rv.ext e⟩
theorem wk_tup {a : Addr} {vs : List V} {ds : List D} (h : SqT K H a vs) (r : Rls K G H vs ds) : Wk K G H (Itt K a) ds := fun G2 H2 e => by
  have hs : SqT K H2 a vs := SqT.ext e h
  refine ⟨fun i d hd => ?_, fun i hi => ⟨vs, hs, by rw [r.length]; exact hi⟩⟩
  obtain ⟨v, hv, rv⟩ := r.get hd
  refine ⟨⟨vs, v, hs, hv⟩, fun x H3 ⟨e3, q⟩ => ?_⟩
  subst e3
  have e4 := q vs hs
  rw [hv] at e4
  cases e4
  exact ⟨fun _ _ h => h, fun _ _ => rv.ext e⟩
theorem wk_rng {lo hi : Int} : Wk K G H (Itr lo (hi - lo).toNat) (rngD lo hi) := fun G2 H2 e => by
  have hl : (rngD lo hi).length = (hi - lo).toNat := by simp [rngD]
  refine ⟨fun i d hd => ?_, fun i h => by rw [hl] at h; exact h⟩
  have hi : i < (rngD lo hi).length := (List.getElem?_eq_some_iff.mp hd).1
  rw [hl] at hi
  refine ⟨hi, fun x H3 ⟨e3, q⟩ => ?_⟩
  subst e3 q
  have ed : d = .int (lo + i) := by
    unfold rngD at hd
    rw [List.getElem?_map, List.getElem?_range hi] at hd
    exact (Option.some.inj hd).symm
  subst ed
  exact ⟨fun _ _ h => h, fun _ _ => .int _⟩
theorem wk_rngDn {a b : Int} : Wk K G H (Itc a (-1) (a - b).toNat) (rngDn a b) := fun G2 H2 e => by
  have hl : (rngDn a b).length = (a - b).toNat := by simp [rngDn]
  refine ⟨fun i d hd => ?_, fun i h => by rw [hl] at h; exact h⟩
  have hi : i < (rngDn a b).length := (List.getElem?_eq_some_iff.mp hd).1
  rw [hl] at hi
  refine ⟨hi, fun x H3 ⟨e3, q⟩ => ?_⟩
  subst e3 q
  have ed : d = .int (a - i) := by
    unfold rngDn at hd
    rw [List.getElem?_map, List.getElem?_range hi] at hd
    exact (Option.some.inj hd).symm
  subst ed
  refine ⟨fun _ _ h => h, fun _ _ => ?_⟩
  have e5 : a - (i : Int) = a + (i : Int) * (-1) := by omega
  rw [e5]
  exact .int _
theorem i_seq {W : WX} {tg e : Expr} {m : Env → M D} (he : PE X e (tE X.K W m)) : PI X tg e (tI X.K W fun ρ => M.bnd (M.bnd (m ρ) handM) fun x => M.ofO x.seq?) := by
  refine PI.imp (PI.or (pi_list (s_hand he)) (pi_tup (s_hand he))) fun σ H Q ⟨G, ρ, S, Hin, A, h⟩ => ?_
  have h : PostI X.K W σ G H (M.bnd (M.bnd (m ρ) handM) (fun x => M.ofO x.seq?) S) Q := h
  cases q : M.bnd (m ρ) handM S with
  | bad => rw [M.bnd_bad q] at h; exact h.elim
  | exc x S' =>
    refine .inl ⟨G, ρ, S, Hin, A, ?_⟩
    have h' : PostI X.K W σ G H (.exc x S') Q := by
      have e : M.bnd (M.bnd (m ρ) handM) (fun x => M.ofO x.seq?) S = .exc x S' := M.bnd_exc q
      rw [e] at h
      exact h
    show Post X.K W σ (r0 X.K) G H (M.bnd (m ρ) handM S) _
    rw [q]
    exact h'
  | ok d S' =>
    have h' : PostI X.K W σ G H (M.ofO d.seq? S') Q := by
      have e : M.bnd (M.bnd (m ρ) handM) (fun x => M.ofO x.seq?) S = M.ofO d.seq? S' := M.bnd_ok q
      rw [e] at h
      exact h
    have fl : ∀ xs, d = .lst xs → iList X.K (tM X.K W (r0 X.K) fun ρ => M.bnd (m ρ) handM) σ H Q := fun xs e => by
      subst e
      refine ⟨G, ρ, S, Hin, A, ?_⟩
      show Post X.K W σ (r0 X.K) G H (M.bnd (m ρ) handM S) _
      rw [q]
      intro v G1 H1 x1 r1 R1
      cases r1 with
      | lst h1 h2 => exact ⟨_, rfl, ⟨_, SqL.of h1.2⟩, h' _ G1 H1 x1 (wk_list h1 h2) R1⟩
    have ft : ∀ xs, d = .tup xs → iTup X.K (tM X.K W (r0 X.K) fun ρ => M.bnd (m ρ) handM) σ H Q := fun xs e => by
      subst e
      refine ⟨G, ρ, S, Hin, A, ?_⟩
      show Post X.K W σ (r0 X.K) G H (M.bnd (m ρ) handM S) _
      rw [q]
      intro v G1 H1 x1 r1 R1
      cases r1 with
      | tup h1 h2 => exact ⟨_, rfl, ⟨_, h1⟩, h' _ G1 H1 x1 (wk_tup h1 h2) R1⟩
    cases d with
    | lst xs => exact .inl (fl xs rfl)
    | tup xs => exact .inr (ft xs rfl)
    | own xs =>
      exfalso
      unfold M.bnd at q
      split at q
      · rename_i d2 S2 _
        cases d2 <;> simp [handM, M.ofO, D.hand, M.ret, M.bad] at q
      · cases q
      · cases q
    | bor xs =>
      exfalso
      unfold M.bnd at q
      split at q
      · rename_i d2 S2 _
        cases d2 <;> simp [handM, M.ofO, D.hand, M.ret, M.bad] at q
      · cases q
      · cases q
    | _ => exact h'.elim
theorem i_rng1 {W : WX} {tg a : Expr} {p pos : Pos} {m : Env → M D} (hg : Gl X "range") (hm : X.mg "range" = none) (ha : PE X a (tE X.K W m)) (hs : starEach [a] X.env = [(false, eval a X.env)]) :
    PI X tg (.Call (.Name "range" p) [a] [] pos) (tI X.K W fun ρ => M.bnd (m ρ) fun x => match x with | .int j => if rng62 j then M.ret (rngD 0 j) else M.bad | _ => M.bad) := by
  refine PI.imp (pi_range1 hg hm (pa_cons ha pa_nil hs) hs) fun σ H Q ⟨G, ρ, S, Hin, A, h⟩ => ?_
  refine tI_bnd A h fun v d G1 H1 S1 x1 A1 r1 h1 => ?_
  cases d <;> first | exact h1.elim | skip
  rename_i j
  by_cases hj : rng62 j = true
  · simp only [hj, if_true] at h1
    simp only [rng62, decide_eq_true_eq] at hj
    have hv := r1.1.toInt
    subst hv
    refine ⟨j, rfl, hj.1, hj.2, ?_⟩
    have := h1.ret (wk_rng (lo := 0) (hi := j)) A1.st
    simpa using this
  · simp only [hj] at h1
    exact h1.elim
theorem i_rng2 {W : WX} {tg a b : Expr} {p pos : Pos} {m m' : Env → M D} (hg : Gl X "range") (hm : X.mg "range" = none) (ha : PE X a (tE X.K W m)) (hb : PE X b (tE X.K W m')) (hs : starEach [a, b] X.env = [(false, eval a X.env), (false, eval b X.env)]) (hs2 : starEach [b] X.env = [(false, eval b X.env)]) :
    PI X tg (.Call (.Name "range" p) [a, b] [] pos) (tI X.K W fun ρ => M.bnd (m ρ) fun x => M.bnd (m' ρ) fun y => match x, y with | .int i, .int j => if rng62 i && rng62 j then M.ret (rngD i j) else M.bad | _, _ => M.bad) := by
  refine PI.imp (pi_range2 hg hm (pa_cons ha (pa_cons hb pa_nil hs2) (by rw [hs, hs2])) hs hs2) fun σ H Q ⟨G, ρ, S, Hin, A, h⟩ => ?_
  refine tI_bnd A h fun v d G1 H1 S1 x1 A1 r1 h1 => ?_
  refine tI_bnd A1 h1 fun u e G2 H2 S2 x2 A2 r2 h2 => ?_
  cases d <;> cases e <;> first | exact h2.elim | skip
  rename_i i j
  by_cases hj : (rng62 i && rng62 j) = true
  · simp only [hj, if_true] at h2
    simp only [rng62, Bool.and_eq_true, decide_eq_true_eq] at hj
    have hv := r1.1.toInt
    have hu := r2.1.toInt
    subst hv hu
    exact ⟨i, j, rfl, ⟨hj.1.1, hj.1.2, hj.2.1, hj.2.2⟩, h2.ret wk_rng A2.st⟩
  · simp only [hj] at h2
    exact h2.elim
theorem i_rng3 {W : WX} {tg a b c : Expr} {p pos : Pos} {m m' m'' : Env → M D} (hp : ∀ ta, PA X [a, b, c] ta → PI X tg (.Call (.Name "range" p) [a, b, c] [] pos) (iRng3 ta)) (ha : PE X a (tE X.K W m)) (hb : PE X b (tE X.K W m')) (hc : PE X c (tE X.K W m''))
    (h1 : starEach [a, b, c] X.env = (false, eval a X.env) :: starEach [b, c] X.env) (h2 : starEach [b, c] X.env = (false, eval b X.env) :: starEach [c] X.env) (h3 : starEach [c] X.env = (false, eval c X.env) :: starEach [] X.env) :
    PI X tg (.Call (.Name "range" p) [a, b, c] [] pos) (tI X.K W fun ρ => M.bnd (m ρ) fun x => M.bnd (m' ρ) fun y => M.bnd (m'' ρ) fun z => match x, y, z with | .int i, .int j, .int k => if k = -1 ∧ rng62 i = true ∧ rng62 j = true then M.ret (rngDn i j) else M.bad | _, _, _ => M.bad) := by
  refine PI.imp (hp _ (pa_cons ha (pa_cons hb (pa_cons hc pa_nil h3) h2) h1)) fun σ H Q ⟨G, ρ, S, Hin, A, h⟩ => ?_
  refine tI_bnd A h fun v d G1 H1 S1 x1 A1 r1 h1 => ?_
  refine tI_bnd A1 h1 fun u e G2 H2 S2 x2 A2 r2 h2 => ?_
  refine tI_bnd A2 h2 fun w f G3 H3 S3 x3 A3 r3 h3 => ?_
  cases d <;> cases e <;> cases f <;> first | exact h3.elim | skip
  rename_i i j k
  by_cases hj : k = -1 ∧ rng62 i = true ∧ rng62 j = true
  · simp only [hj] at h3
    have h3 : PostI X.K W σ G3 H3 (M.ret (rngDn i j) S3) Q := by simpa using h3
    obtain ⟨rfl, z1, z2⟩ := hj
    simp only [rng62, decide_eq_true_eq] at z1 z2
    have hv := r1.1.toInt
    have hu := r2.1.toInt
    have hw := r3.1.toInt
    subst hv hu hw
    exact ⟨i, j, -1, _, rfl, RgC.neg z1.1 z1.2 z2.1 z2.2, h3.ret wk_rngDn A3.st⟩
  · simp only [hj, if_false] at h3
    exact h3.elim
end
end WB
namespace WB
open PySem L2

def IteT (K : PySem.W.Frag) (a : Addr) : It :=
  { go := fun i H => ∃ (xs : List V) (x : V), SqT K H a xs ∧ xs[i]? = some x
    yld := fun i H v H' => ∃ T x, v = .ref T ∧ H T = none ∧ H' = upd H T (.tup [.int (i : Nat), x]) ∧ ∀ xs, SqT K H a xs → xs[i]? = some x
    stop := fun i H => ∃ xs : List V, SqT K H a xs ∧ xs.length ≤ i }
theorem tup_ne_it {h : Heap} {a it : Addr} {items : Array Value} {i : Nat} (ht : PyProof.Rows.IsTup h a items) (hi : h.IsTupleIter it a i) : a ≠ it := by
  rintro rfl
  obtain ⟨o, h1, h2, _⟩ := ht
  obtain ⟨o', h3, h4, _⟩ := hi
  rw [h1] at h3
  cases h3
  rw [h2] at h4
  simp at h4
theorem tup_ne_en {h : Heap} {a e it : Addr} {items : Array Value} {i : Int} {old : Value} (ht : PyProof.Rows.IsTup h a items) (he : IsEnum h e it i old) : e ≠ a := by
  rintro rfl
  obtain ⟨o, h1, h2, _⟩ := ht
  rw [show h.get? e = _ from he] at h1
  cases h1
  simp at h2
theorem turn_enumT {P : Program} {w : World} {K : PySem.W.Frag} {elts : List Expr} {kk : Nat} {tpos : Pos} (a e it : Addr) :
    Turn P w K (.Tuple elts kk tpos) (IteT K a) [e, it] e (fun i h => (∃ old, IsEnum h e it ((i : Nat) : Int) old) ∧ h.IsTupleIter it a i ∧ e ≠ it) where
  mem := List.mem_cons_self
  obj := fun i h st b hb => by
    obtain ⟨⟨old, he⟩, ⟨o, ho, _, hd⟩, _⟩ := st
    rcases List.mem_cons.mp hb with z | z
    · exact ⟨_, by rw [z]; exact he, fun v q => by simp at q⟩
    · rw [List.mem_singleton.mp z]
      exact ⟨o, ho, fun v q => by rw [hd] at q; exact nomatch q⟩
  keep := fun i h h' st k => by
    obtain ⟨⟨old, he⟩, hi, hne⟩ := st
    exact ⟨⟨old, k e List.mem_cons_self _ he⟩, hi.at (fun o q => k it (by simp) o q), hne⟩
  item := fun X hP hw hK hc i pins s σ H E I hf st hg => by
    subst hP; subst hw; subst hK
    obtain ⟨⟨old, he⟩, hit, hne⟩ := st
    obtain ⟨xs, x, hq, hx⟩ := hg
    obtain ⟨its, rv, ht, _⟩ := I.tuple hq
    obtain ⟨u, hu, ru⟩ := rv.get hx
    have n1 := tup_ne_it ht hit
    have n2 := tup_ne_en ht he
    have hel := Heap.lt_size (show s.heap.get? e = some _ from he)
    have hil : it < s.heap.objs.size := by
      obtain ⟨_, q, _⟩ := hit
      exact Heap.lt_size q
    have hlt : i < its.toArray.size := by
      have := (List.getElem?_eq_some_iff.mp hu).1
      simpa using this
    refine wpAny_pyNext_enum_itemD (Draws.tuple (A := X.A.in1) (I.ok.hd hc) it a n1 its.toArray) he ⟨hit, ht⟩ hlt hne (by simp [hne, n2]) fun y h' tk hy ho hst' hT hsz hk => ?_
    have ey : y = u := by
      rw [show its.toArray[i]? = its[i]? by simp, hu] at hy
      exact (Option.some.inj hy).symm
    subst ey
    refine ⟨_, rfl, wpAny_letOwnedTupleGo_enum (s := { s with heap := h', toks := tk + 1 }) ho fun h'' he' sb => ?_⟩
    have at2 : h''.get? s.heap.objs.size = some { cls := .type "tuple", data := .seq #[.int i tk, y] } := (sb.2 _ (Nat.ne_of_gt hel)).trans hT
    have okT : ObjOk X.prog X.w (upd H s.heap.objs.size (.tup [.int (i : Nat), x])) h'' s.heap.objs.size (.tup [.int (i : Nat), x]) :=
      ⟨show 2 ≤ sizeLine by decide, [.int i tk, y], .cons ⟨_, rfl⟩ (.cons ru .nil), ⟨_, at2, rfl, _, rfl⟩⟩
    have I' : Inv X pins σ (upd H s.heap.objs.size (.tup [.int (i : Nat), x])) { s with heap := h'', toks := tk + 1 } := by
      refine I.turnedNew (ch := [e, it]) (fun b ob hb q => ?_) hf (Nat.le_refl _) okT
      have b1 : b ≠ e := fun z => hb (by simp [z])
      have b2 : b ≠ it := fun z => hb (by simp [z])
      exact (sb.2 b b1).trans (hk b ob b1 b2 q)
    refine ⟨.ref s.heap.objs.size, _, I', rfl, ⟨_, x, rfl, I.hok.fresh (Nat.le_refl _), rfl, fun ys hy => by rw [I.tuple_inj hy hq]; exact hx⟩, ⟨⟨y, ?_⟩, ?_, hne⟩, fun b hb => ?_⟩
    · rw [show ((i + 1 : Nat) : Int) = (i : Int) + 1 by omega]
      exact he'
    · exact hst'.1.at fun o q => (sb.2 it (Ne.symm hne)).trans q
    · have lt : b < s.heap.objs.size := by
        rcases List.mem_cons.mp hb with z | z
        · rw [z]; exact hel
        · rw [List.mem_singleton.mp z]; exact hil
      rw [upd_ne (Nat.ne_of_lt lt)]
      exact (hf b hb).1
  done := fun X hP hw hK hc i pins s σ H E I hf st hg => by
    subst hP; subst hw; subst hK
    obtain ⟨⟨old, he⟩, hit, hne⟩ := st
    obtain ⟨xs, hq, hx⟩ := hg
    obtain ⟨its, rv, ht, _⟩ := I.tuple hq
    obtain ⟨f0, f1, f2, f3, f4, f5⟩ := hf it (by simp)
    have hl := rv.length
    have n1 := tup_ne_it ht hit
    have over : its.toArray[i]? = none := by simp; omega
    refine wpAny_pyNext_enum_endD (n := i) (P := fun _ _ => False) (St := fun j h => j = i ∧ h.IsTupleIter it a i ∧ h.IsTuple a its.toArray) (fp := [it, a])
      ⟨fun _ _ z => let ⟨o, q, _⟩ := z.2.1; ⟨o, q⟩, fun _ _ _ z k => ⟨z.1, z.2.1.at fun o q => k it (by simp) o q, z.2.2.at fun o q => k a (by simp) o q⟩, fun j s Q E hj z _ => absurd z.1 (Nat.ne_of_lt hj), fun s Q E z k => wpAny_nextOf_tuple_end (A := X.A.in1) (I.ok.hd hc) z.2.1 z.2.2 over k⟩ he ⟨rfl, hit, ht⟩ fun h' eb => ?_
    exact ⟨rfl, I.turned (t' := s.toks) (fun b o hb q => eb b o hb q) f0 f1 f3 f4 f5⟩
  self := fun A i s Q E st h => by
    obtain ⟨⟨_, he⟩, _⟩ := st
    exact wpAny_pyIter_enum he h
open AutoSeq1 (wpAny_loadPart') in
theorem meets_enum1 {v : Value} {o : Obj} {HH : Heap → Prop} (B : Begins v o HH) :
    Meets (Builtin.«enumerate.__new__» ⟨[.type "enumerate", v], []⟩) (fun _ R s => HH s.heap ∧
      R (.ok (.ret (.ref (s.heap.push o).objs.size))) { s with heap := (s.heap.push o).push { cls := .type "enumerate", data := .fields #[.none, .bool false, .ref s.heap.objs.size, rawInt 0, .none, .none] } }) :=
  .of_wp fun prog w A R s h => by
    obtain ⟨hp, g, d, tk, os⟩ := s
    obtain ⟨h1, h⟩ := h
    have hsub := sub_enumerate
    have q1 : ∀ {A' : Around} {E : Value → Shared → Prop} {Q : Value → Shared → Prop}, Q (.ref hp.objs.size) ⟨hp.push o, g, d, tk, os⟩ → wpAny (model prog w) A' (pyIter v) Q E ⟨hp, g, d, tk, os⟩ := fun q =>
      B.iter prog w _ _ ⟨hp, g, d, tk, os⟩ _ h1 q
    wp_walk using q1
    refine wpAny_stack_any fun st => wpAny_pure ?_
    split
    · rename_i c _ _ _ _ _
      cases (c == Value.type "enumerate")
      all_goals
        wp_walk using q1
        exact ⟨_, rfl, h⟩
    · wp_walk using q1
      exact ⟨_, rfl, h⟩
theorem call_enum1 {prog : Program} {w : World} {A : Around} {E : Value → Shared → Prop} {s : Shared} {v : Value} {o : Obj} {HH : Heap → Prop} {Q : Value → Shared → Prop} (B : Begins v o HH) (h1 : HH s.heap)
    (h : ∀ h', IsEnum h' (s.heap.objs.size + 1) s.heap.objs.size 0 .none → h'.get? s.heap.objs.size = some o → (∀ b o, s.heap.get? b = some o → h'.get? b = some o) → Q (.ref (s.heap.objs.size + 1)) { s with heap := h' }) :
    wpAny (model prog w) A (call (.type "enumerate") [v]) Q E s := by
  refine callType_new F.called_enumerate (by decide) (F.typeCall_enumerate_1 _) (F.newCall_enumerate_1 _) (fun obj => F.args_object_init_2 obj _) F.entry_enumerate_new (meets_enum1 B) ⟨h1, ?_⟩
  have hz : (s.heap.push o).objs.size = s.heap.objs.size + 1 := Heap.size_push ..
  show _ ∧ _
  rw [hz]
  have he : IsEnum ((s.heap.push o).push { cls := .type "enumerate", data := .fields #[.none, .bool false, .ref s.heap.objs.size, rawInt 0, .none, .none] }) (s.heap.objs.size + 1) s.heap.objs.size 0 .none := by
    have q := Heap.get?_push_size (s.heap.push o) (o := { cls := .type "enumerate", data := .fields #[.none, .bool false, .ref s.heap.objs.size, rawInt 0, .none, .none] }) rfl
    rw [hz] at q
    exact q
  exact ⟨⟨_, he, rfl⟩, h _ he (Heap.get?_push_of_some _ (Heap.get?_push_size _ B.free)) fun b o x => Heap.get?_push_of_some _ (Heap.get?_push_of_some _ x)⟩
def iEnumT (K : PySem.W.Frag) (ta : TA) : TI := fun σ H R => ta σ H fun vs H1 => ∃ a xs, vs = [.ref a] ∧ SqT K H1 a xs ∧ R (IteT K a) H1
theorem pi_enumT {X : Cx} {e : Expr} {ta : TA} {p pos tpos : Pos} {elts : List Expr} {kk : Nat} (hg : Gl X "enumerate") (hm : X.mg "enumerate" = none) (ha : PA X [e] ta) (hs : starEach [e] X.env = [(false, eval e X.env)]) :
    PI X (.Tuple elts kk tpos) (.Call (.Name "enumerate" p) [e] [] pos) (iEnumT X.K ta) := by
  refine ⟨fun pins s σ H R I h => ?_⟩
  refine PyProof.Rows.Call_ (ld_blt I hg hm PyProof.Rows.boot_enumerate (PyProof.Rows.callWith_type1 (thn (ha.run pos pins s σ H _ I h) fun us s1 q0 => ?_) hs rfl))
  obtain ⟨vs, H1, I1, r1, a, xs, ex, hq, q⟩ := q0
  subst ex
  rw [Vals.ref1 r1]
  obtain ⟨its, rv, ht, _⟩ := I1.tuple hq
  refine call_enum1 (begins_tuple a its.toArray) ht fun h' he hit hk => wpAny_pyIter_enum he ?_
  have I2 : Inv X pins σ H1 { s1 with heap := h' } := I1.kept (t' := s1.toks) hk
  refine ⟨s1.heap.objs.size + 1, [s1.heap.objs.size + 1, s1.heap.objs.size], _, _, H1, rfl, I2, turn_enumT a (s1.heap.objs.size + 1) s1.heap.objs.size, ⟨⟨.none, he⟩, ⟨_, hit, rfl, rfl⟩, Nat.succ_ne_self _⟩, fun b hb => ?_, q⟩
  have hle : s1.heap.objs.size ≤ b := by
    rcases List.mem_cons.mp hb with z | z
    · rw [z]; exact Nat.le_succ _
    · rw [List.mem_singleton.mp z]; exact Nat.le_refl _
  exact I1.fpOk hle (I1.hok.fresh hle)
end WB
namespace WB
open PySem L2
section
variable {X : Cx} {K : PySem.W.Frag} {G : Gh} {H : Hp}
theorem enumFrom_get : ∀ {xs : List D} {k i : Nat} {d : D}, (enumFrom k xs)[i]? = some d → ∃ x, xs[i]? = some x ∧ d = .tup [.int ((k + i : Nat) : Int), x]
  | [], _, _, _, e => by simp [enumFrom] at e
  | x :: xs, k, 0, d, e => by simp [enumFrom] at e; exact ⟨x, rfl, e.symm⟩
  | x :: xs, k, i + 1, d, e => by
    obtain ⟨y, h1, h2⟩ := enumFrom_get (xs := xs) (k := k + 1) (i := i) (d := d) (by simpa [enumFrom] using e)
    exact ⟨y, by simpa using h1, by rw [h2, show k + 1 + i = k + (i + 1) by omega]⟩
theorem enumFrom_length : ∀ {xs : List D} {k : Nat}, (enumFrom k xs).length = xs.length
  | [], _ => rfl
  | x :: xs, k => by simp [enumFrom, enumFrom_length]
theorem zipD_get : ∀ {xs ys : List D} {i : Nat} {d : D}, (zipD xs ys)[i]? = some d → ∃ x y, xs[i]? = some x ∧ ys[i]? = some y ∧ d = .tup [x, y]
  | [], _, _, _, e => by simp [zipD] at e
  | _ :: _, [], _, _, e => by simp [zipD] at e
  | x :: xs, y :: ys, 0, d, e => by simp [zipD] at e; exact ⟨x, y, rfl, rfl, e.symm⟩
  | x :: xs, y :: ys, i + 1, d, e => by
    obtain ⟨a, b, h1, h2, h3⟩ := zipD_get (xs := xs) (ys := ys) (i := i) (d := d) (by simpa [zipD] using e)
    exact ⟨a, b, by simpa using h1, by simpa using h2, h3⟩
theorem zipD_length : ∀ {xs ys : List D}, (zipD xs ys).length = min xs.length ys.length
  | [], _ => by simp [zipD]
  | _ :: _, [] => by simp [zipD]
  | x :: xs, y :: ys => by simp [zipD, zipD_length]
/-- a new tuple of two -/
theorem two_new {G2 : Gh} {H2 : Hp} {S : Store} {T : Addr} {v1 v2 : V} {d1 d2 : D} (R : RelS K G2 H2 S) (hT : H2 T = none) (r1 : Rl0 K G2 H2 v1 d1) (r2 : Rl0 K G2 H2 v2 d2) : Rl0 K G2 (upd H2 T (.tup [v1, v2])) (.ref T) (.tup [d1, d2]) :=
  .tup (SqT.of upd_same) (Rls.ext (Ext.new R hT) (.cons r1 (.cons r2 .nil)))
theorem wk_enumL {a : Addr} {vs : List V} {ds : List D} (h : FzL G H a vs) (r : Rls K G H vs ds) : Wk K G H (Ite K a) (enumFrom 0 ds) := fun G2 H2 e => by
  have hs : SqL K H2 a vs := SqL.of (h.ext e).2
  refine ⟨fun i d hd => ?_, fun i hi => ⟨vs, hs, by rw [r.length]; rwa [enumFrom_length] at hi⟩⟩
  obtain ⟨x, hx, rfl⟩ := enumFrom_get hd
  obtain ⟨v, hv, rv⟩ := r.get hx
  refine ⟨⟨vs, v, hs, hv⟩, fun y H3 ⟨T, z, e1, hT, e3, q⟩ => ?_⟩
  subst e1 e3
  have e4 := q vs hs
  rw [hv] at e4
  cases e4
  exact ⟨upd_same_of hT, fun S R => by rw [Nat.zero_add]; exact two_new R hT (.int _) (rv.ext e)⟩
theorem wk_enumT {a : Addr} {vs : List V} {ds : List D} (h : SqT K H a vs) (r : Rls K G H vs ds) : Wk K G H (IteT K a) (enumFrom 0 ds) := fun G2 H2 e => by
  have hs : SqT K H2 a vs := SqT.ext e h
  refine ⟨fun i d hd => ?_, fun i hi => ⟨vs, hs, by rw [r.length]; rwa [enumFrom_length] at hi⟩⟩
  obtain ⟨x, hx, rfl⟩ := enumFrom_get hd
  obtain ⟨v, hv, rv⟩ := r.get hx
  refine ⟨⟨vs, v, hs, hv⟩, fun y H3 ⟨T, z, e1, hT, e3, q⟩ => ?_⟩
  subst e1 e3
  have e4 := q vs hs
  rw [hv] at e4
  cases e4
  exact ⟨upd_same_of hT, fun S R => by rw [Nat.zero_add]; exact two_new R hT (.int _) (rv.ext e)⟩
theorem wk_zipL {a b : Addr} {vs ws : List V} {ds es : List D} (h : FzL G H a vs) (r : Rls K G H vs ds) (h' : FzL G H b ws) (r' : Rls K G H ws es) : Wk K G H (Itz K a b) (zipD ds es) := fun G2 H2 e => by
  have hs : SqL K H2 a vs := SqL.of (h.ext e).2
  have hs' : SqL K H2 b ws := SqL.of (h'.ext e).2
  refine ⟨fun i d hd => ?_, fun i hi => ⟨vs, ws, hs, hs', by rw [r.length, r'.length]; rw [zipD_length] at hi; omega⟩⟩
  obtain ⟨x, y, hx, hy, rfl⟩ := zipD_get hd
  obtain ⟨v, hv, rv⟩ := r.get hx
  obtain ⟨w, hw, rw'⟩ := r'.get hy
  refine ⟨⟨vs, ws, v, w, hs, hs', hv, hw⟩, fun u H3 ⟨T, z, z', e1, hT, e3, q, q'⟩ => ?_⟩
  subst e1 e3
  have e4 := q vs hs
  have e5 := q' ws hs'
  rw [hv] at e4
  rw [hw] at e5
  cases e4
  cases e5
  exact ⟨upd_same_of hT, fun S R => two_new R hT (rv.ext e) (rw'.ext e)⟩
theorem wk_zipT {a b : Addr} {vs ws : List V} {ds es : List D} (h : SqT K H a vs) (r : Rls K G H vs ds) (h' : SqT K H b ws) (r' : Rls K G H ws es) : Wk K G H (RZ.ItzT K a b) (zipD ds es) := fun G2 H2 e => by
  have hs : SqT K H2 a vs := SqT.ext e h
  have hs' : SqT K H2 b ws := SqT.ext e h'
  refine ⟨fun i d hd => ?_, fun i hi => ⟨vs, ws, hs, hs', by rw [r.length, r'.length]; rw [zipD_length] at hi; omega⟩⟩
  obtain ⟨x, y, hx, hy, rfl⟩ := zipD_get hd
  obtain ⟨v, hv, rv⟩ := r.get hx
  obtain ⟨w, hw, rw'⟩ := r'.get hy
  refine ⟨⟨vs, ws, v, w, hs, hs', hv, hw⟩, fun u H3 ⟨T, z, z', e1, hT, e3, q, q'⟩ => ?_⟩
  subst e1 e3
  have e4 := q vs hs
  have e5 := q' ws hs'
  rw [hv] at e4
  rw [hw] at e5
  cases e4
  cases e5
  exact ⟨upd_same_of hT, fun S R => two_new R hT (rv.ext e) (rw'.ext e)⟩
theorem i_enum {W : WX} {e : Expr} {p pos tpos : Pos} {elts : List Expr} {kk : Nat} {m : Env → M D} (hg : Gl X "enumerate") (hm : X.mg "enumerate" = none) (he : PE X e (tE X.K W m)) (hs : starEach [e] X.env = [(false, eval e X.env)]) :
    PI X (.Tuple elts kk tpos) (.Call (.Name "enumerate" p) [e] [] pos) (tI X.K W fun ρ => M.bnd (M.bnd (m ρ) handM) fun x => match x.seq? with | some xs => M.ret (enumFrom 0 xs) | none => M.bad) := by
  have pa : PA X [e] (tCons (tM X.K W (r0 X.K) fun ρ => M.bnd (m ρ) handM) tNil) := pa_cons (s_hand he) pa_nil hs
  refine PI.imp (PI.or (pi_enum hg hm pa hs) (pi_enumT hg hm pa hs)) fun σ H Q ⟨G, ρ, S, Hin, A, h⟩ => ?_
  have h : PostI X.K W σ G H (M.bnd (M.bnd (m ρ) handM) (fun x => match x.seq? with | some xs => M.ret (enumFrom 0 xs) | none => M.bad) S) Q := h
  have rd : ∀ Q', Post X.K W σ (r0 X.K) G H (M.bnd (m ρ) handM S) Q' → tM X.K W (r0 X.K) (fun ρ => M.bnd (m ρ) handM) σ H Q' := fun Q' h => ⟨G, ρ, S, Hin, A, h⟩
  cases q : M.bnd (m ρ) handM S with
  | bad => rw [M.bnd_bad q] at h; exact h.elim
  | exc x S' =>
    rw [M.bnd_exc q] at h
    refine .inl (rd _ ?_)
    rw [q]
    exact h
  | ok d S' =>
    rw [M.bnd_ok q] at h
    cases d with
    | lst xs =>
      refine .inl (rd _ ?_)
      rw [q]
      intro v G1 H1 x1 r1 R1
      cases r1 with
      | lst h1 h2 => exact ⟨_, _, rfl, SqL.of h1.2, h _ G1 H1 x1 (wk_enumL h1 h2) R1⟩
    | tup xs =>
      refine .inr (rd _ ?_)
      rw [q]
      intro v G1 H1 x1 r1 R1
      cases r1 with
      | tup h1 h2 => exact ⟨_, _, rfl, h1, h _ G1 H1 x1 (wk_enumT h1 h2) R1⟩
    | own xs =>
      exfalso
      unfold M.bnd at q
      split at q
      · rename_i d2 S2 _
        cases d2 <;> simp [handM, M.ofO, D.hand, M.ret, M.bad] at q
      · cases q
      · cases q
    | bor xs =>
      exfalso
      unfold M.bnd at q
      split at q
      · rename_i d2 S2 _
        cases d2 <;> simp [handM, M.ofO, D.hand, M.ret, M.bad] at q
      · cases q
      · cases q
    | _ => exact h.elim
theorem i_zip {W : WX} {e e2 : Expr} {p pos tpos : Pos} {elts : List Expr} {kk : Nat} {m m' : Env → M D} (hp : ∀ ta, PA X [e, e2] ta → PI X (.Tuple elts kk tpos) (.Call (.Name "zip" p) [e, e2] [] pos) (RZ.iZipA X.K ta)) (he : PE X e (tE X.K W m)) (he2 : PE X e2 (tE X.K W m'))
    (h1 : starEach [e, e2] X.env = (false, eval e X.env) :: starEach [e2] X.env) (h2 : starEach [e2] X.env = (false, eval e2 X.env) :: starEach [] X.env) :
    PI X (.Tuple elts kk tpos) (.Call (.Name "zip" p) [e, e2] [] pos) (tI X.K W fun ρ => M.bnd (M.bnd (m ρ) handM) fun x => M.bnd (M.bnd (m' ρ) handM) fun y => match x, y with
      | .tup xs, .tup ys => M.ret (zipD xs ys)
      | .lst xs, .lst ys => M.ret (zipD xs ys)
      | _, _ => M.bad) := by
  refine PI.imp (hp _ (pa_cons (s_hand he) (pa_cons (s_hand he2) pa_nil h2) h1)) fun σ H Q ⟨G, ρ, S, Hin, A, h⟩ => ?_
  refine tI_bnd A h fun v d G1 H1 S1 x1 A1 r1 h1 => ?_
  refine tI_bnd A1 h1 fun u e G2 H2 S2 x2 A2 r2 h2 => ?_
  have r1 : Rl0 X.K G2 H2 v d := Rl0.ext x2 r1
  have r2 : Rl0 X.K G2 H2 u e := r2
  cases r1 with
  | tup q1 q2 =>
    cases r2 with
    | tup q3 q4 => exact ⟨_, _, _, _, rfl, .inr ⟨q1, q3, h2.ret (wk_zipT q1 q2 q3 q4) A2.st⟩⟩
    | _ => exact h2.elim
  | lst q1 q2 =>
    cases r2 with
    | lst q3 q4 => exact ⟨_, _, _, _, rfl, .inl ⟨SqL.of q1.2, SqL.of q3.2, h2.ret (wk_zipL q1 q2 q3 q4) A2.st⟩⟩
    | _ => exact h2.elim
  | _ => exact h2.elim
end
end WB
namespace WB
open PySem L2

/-- nothing may leave -/
def W0 : WX := fun _ _ _ _ => False
section
variable {K : PySem.W.Frag} {G : Gh} {H : Hp} {S : Store}
theorem Ext.ownUpd {B : Hp} {p : Addr} {xs ys : List V} (h1 : H p = some (.lst xs)) (h2 : ¬ G.Z p) (hB : B p = none) : Ext B G H G (upd H p (.lst ys)) where
  keep := fun a o hb e _ _ => by rw [upd_ne (fun z => hb (by rw [z]; exact hB))]; exact e
  tups := fun a zs e => by rw [upd_ne (ne_of e h1 (by intro z; cases z))]; exact e
  frzs := fun a o u e => by rw [upd_ne (ne_of e h1 (by intro z; cases z))]; exact e
  zk := fun a z => upd_ne (fun e => h2 (by rw [← e]; exact z))
  zm := fun _ z => z
  zn := fun _ z => .inl z
  pre := fun _ _ e => e
  idn := fun _ e => .inl e
  trk := fun a n => by
    by_cases e : a = p
    · rw [e, upd_same]; simp
    · rw [upd_ne e]; exact n
  fx := fun a o f e => upd_fx h1 (fun z => z) f e
  tt := rfl
theorem RelS.ownUpd (R : RelS K G H S) {p : Addr} {xs ys : List V} (h1 : H p = some (.lst xs)) (h2 : ¬ G.Z p) (h3 : p ∉ G.ids) : RelS K G (upd H p (.lst ys)) S where
  zt := fun a z => (Ext.ownUpd (B := noB) (ys := ys) h1 h2 rfl).trk a (R.zt a z)
  zi := R.zi
  nd := R.nd
  it := fun a m => by rw [upd_ne (fun z => h3 (by rw [← z]; exact m))]; exact R.it a m
  len := R.len
  obj := fun n a o e1 e2 => (R.obj n a o e1 e2).ext (Ext.ownUpd (B := noB) h1 h2 rfl) (upd_ne fun z => h3 (by rw [← z]; exact List.mem_of_getElem? e1))
  tabs := tabs_keep R.tabs fun b o e f => upd_tab h1 (fun z => z) (fun _ => nofun) e f
/-- a list in the making at p -/
structure Mk (K : PySem.W.Frag) (G1 : Gh) (H1 : Hp) (p : Addr) (G : Gh) (H : Hp) (S : Store) (acc : List D) : Prop where
  ext : Ext H1 G1 H1 G H
  st : RelS K G H S
  nz : ¬ G.Z p
  ni : p ∉ G.ids
  new : H1 p = none
  at_ : ∃ vs, H p = some (.lst vs) ∧ Rls K G H vs acc
variable {G1 : Gh} {H1 : Hp} {p : Addr} {acc : List D}
theorem Mk.start (R : RelS K G1 H1 S) (hp : H1 p = none) : Mk K G1 H1 p G1 (upd H1 p (.lst [])) S [] where
  ext := Ext.new R hp
  st := R.new hp
  nz := fun z => R.zt p z hp
  ni := fun z => by
    obtain ⟨o, e, _⟩ := R.it p z
    rw [hp] at e
    cases e
  new := hp
  at_ := ⟨[], upd_same, .nil⟩
theorem Mk.grow {G' : Gh} {H' : Hp} {S' : Store} (m : Mk K G1 H1 p G H S acc) (e : Ext H G H G' H') (R : RelS K G' H' S') : Mk K G1 H1 p G' H' S' acc := by
  obtain ⟨vs, h1, h2⟩ := m.at_
  have hb : H p ≠ none := by rw [h1]; simp
  exact ⟨m.ext.trans (e.weak m.ext.trk), R, fun z => (e.zn p z).elim m.nz hb, fun z => (e.idn p z).elim m.ni hb, m.new, vs, e.keep p _ hb h1 m.ni (fun _ => nofun), h2.ext e⟩
theorem Mk.push (m : Mk K G1 H1 p G H S acc) {v : V} {d : D} (r : Rl0 K G H v d) {vs : List V} (hv : H p = some (.lst vs)) : Mk K G1 H1 p G (upd H p (.lst (vs ++ [v]))) S (acc ++ [d]) := by
  obtain ⟨ws, h1, h2⟩ := m.at_
  rw [hv] at h1
  cases h1
  have e : Ext H1 G H G (upd H p (.lst (vs ++ [v]))) := Ext.ownUpd hv m.nz m.new
  exact ⟨m.ext.trans e, m.st.ownUpd hv m.nz m.ni, m.nz, m.ni, m.new, _, upd_same, (h2.ext e).append (.cons (r.ext e) .nil)⟩
end

theorem drop_get {α : Type} {xs : List α} {i : Nat} {x : α} (h : xs[i]? = some x) : xs.drop i = x :: xs.drop (i + 1) := by
  obtain ⟨h1, h2⟩ := List.getElem?_eq_some_iff.mp h
  rw [List.drop_eq_getElem_cons h1, h2]
theorem calm_ok {α : Type} {m : M α} {S S' : Store} {a : α} (h : M.calm m S = .ok a S') : m S = .ok a S' := by
  unfold M.calm at h
  split at h
  · cases h; assumption
  · cases h
/-- one item of a comprehension -/
def lcStep (t : T) (vs : List Nat) (mc : Env → M Bool) (me : Env → M D) (ρ : Env) (x : D) : M (Option D) :=
  M.calm (M.bnd (M.ofO (asgT t x (wipeE ρ vs))) fun ρ' => M.bnd (mc ρ') fun k => if k then M.bnd (M.bnd (me ρ') handM) fun y => M.ret (some y) else M.ret none)
theorem lcStep_ok {t : T} {vs : List Nat} {mc : Env → M Bool} {me : Env → M D} {ρ : Env} {x : D} {S S' : Store} {o : Option D} (h : lcStep t vs mc me ρ x S = .ok o S') :
    ∃ ρ' k S1, asgT t x (wipeE ρ vs) = some ρ' ∧ mc ρ' S = .ok k S1 ∧ ((k = false ∧ o = none ∧ S' = S1) ∨ (k = true ∧ ∃ y, M.bnd (me ρ') handM S1 = .ok y S' ∧ o = some y)) := by
  have h := calm_ok h
  cases e : asgT t x (wipeE ρ vs) with
  | none => rw [e] at h; cases h
  | some ρ' =>
    rw [e] at h
    have h : M.bnd (mc ρ') (fun k => if k then M.bnd (M.bnd (me ρ') handM) fun y => M.ret (some y) else M.ret none) S = .ok o S' := h
    cases e2 : mc ρ' S with
    | bad => rw [M.bnd_bad e2] at h; cases h
    | exc _ _ => rw [M.bnd_exc e2] at h; cases h
    | ok k S1 =>
      rw [M.bnd_ok e2] at h
      refine ⟨ρ', k, S1, rfl, e2, ?_⟩
      cases k with
      | false =>
        have h : M.ret none S1 = .ok o S' := h
        cases h
        exact .inl ⟨rfl, rfl, rfl⟩
      | true =>
        have h : M.bnd (M.bnd (me ρ') handM) (fun y => M.ret (some y)) S1 = .ok o S' := h
        cases e3 : M.bnd (me ρ') handM S1 with
        | bad => rw [M.bnd_bad e3] at h; cases h
        | exc _ _ => rw [M.bnd_exc e3] at h; cases h
        | ok y S2 =>
          rw [M.bnd_ok e3] at h
          cases h
          exact .inr ⟨rfl, y, rfl, rfl⟩
section
variable {X : Cx} {K : PySem.W.Frag}
/-- one turn: from the item to where the list has grown -/
theorem lc_turn {Hin : Hp} {G1 G : Gh} {H1 H3 : Hp} {σ : L2.St} {ρ : Env} {S S' : Store} {p : Addr} {acc : List D} {t : T} {vs : List Nat} {mc : Env → M Bool} {me : Env → M D} {x : V} {d : D} {o : Option D} {Nx : Hp → Prop}
    (hE : RelE K Hin G1 H1 σ ρ) (m : Mk K G1 H1 p G H3 S acc) (hr : Rl0 K G H3 x d) (hsl : ∀ i ∈ t.slots, i ∈ vs) (hst : lcStep t vs mc me ρ d S = .ok o S') (hz : acc.length < sizeLine)
    (k : ∀ G' H', Mk K G1 H1 p G' H' S' (acc ++ o.toList) → Nx H') :
    tG K t x (wipe σ vs) H3 fun σ2 H2 => wipe σ2 vs = wipe σ vs ∧ tT K W0 mc σ2 H2 fun b H3 => if b = true then tM K W0 (r0 K) (fun ρ => M.bnd (me ρ) handM) σ2 H3 fun y H4 => ∃ acc, H4 p = some (.lst acc) ∧ acc.length < sizeLine ∧ Nx (upd H4 p (.lst (acc ++ [y]))) else Nx H3 := by
  obtain ⟨ρ', kk, S1, e1, e2, e3⟩ := lcStep_ok hst
  have hE3 : RelE K Hin G H3 σ ρ := hE.extB hE.ownIn m.ext
  refine ⟨G, d, wipeE ρ vs, ρ', S, Hin, ⟨hE3.wipe vs, m.st⟩, hr, e1, fun σ' A' w ow => ⟨by rw [w vs hsl, wipe_wipe fun i hi => hi], ?_⟩⟩
  refine ⟨G, ρ', S, Hin, A', ?_⟩
  rw [e2]
  intro b G4 H4 x4 r4 R4
  have r4 : b = kk := r4
  subst r4
  have m4 := m.grow x4 R4
  rcases e3 with ⟨rfl, rfl, rfl⟩ | ⟨rfl, y, e4, rfl⟩
  · rw [if_neg (by simp)]
    refine k G4 H4 ?_
    rw [show acc ++ (none : Option D).toList = acc by simp]
    exact m4
  · rw [if_pos rfl]
    refine ⟨G4, ρ', S1, Hin, ⟨A'.env.ext x4, R4⟩, ?_⟩
    show Post K W0 σ' (r0 K) G4 H4 (M.bnd (me ρ') handM S1) _
    rw [e4]
    intro w G5 H5 x5 r5 R5
    have m5 := m4.grow x5 R5
    obtain ⟨ws, h1, h2⟩ := m5.at_
    exact ⟨ws, h1, by rw [h2.length]; exact hz, k G5 _ (m5.push r5 h1)⟩
theorem lcM_cons {f : D → M (Option D)} {acc xs : List D} {x : D} {S : Store} {α β : Type} {Re : Rel α β} {W : WX} {σ : L2.St} {G : Gh} {H : Hp} {Q : β → Hp → Prop} {g : List D → M α} (hf : ∀ x S y S', f x S ≠ .exc y S')
    (h : Post K W σ Re G H (M.bnd (lcM f acc (x :: xs)) g S) Q) : ∃ o S', f x S = .ok o S' ∧ acc.length < sizeLine ∧ Post K W σ Re G H (M.bnd (lcM f (acc ++ o.toList) xs) g S') Q := by
  cases e : f x S with
  | bad =>
    rw [M.bnd_bad (show lcM f acc (x :: xs) S = .bad from M.bnd_bad e)] at h
    exact h.elim
  | exc y S' => exact absurd e (hf x S y S')
  | ok o S' =>
    have e1 : lcM f acc (x :: xs) S = (if acc.length < sizeLine then lcM f (acc ++ o.toList) xs else M.bad) S' := M.bnd_ok e
    by_cases hz : acc.length < sizeLine
    · rw [if_pos hz] at e1
      refine ⟨o, S', rfl, hz, ?_⟩
      have e2 : M.bnd (lcM f acc (x :: xs)) g S = M.bnd (lcM f (acc ++ o.toList) xs) g S' := by unfold M.bnd; rw [e1]
      rw [e2] at h
      exact h
    · rw [if_neg hz] at e1
      rw [M.bnd_bad e1] at h
      exact h.elim
theorem lcStep_calm {t : T} {vs : List Nat} {mc : Env → M Bool} {me : Env → M D} {ρ : Env} : ∀ x S y S', lcStep t vs mc me ρ x S ≠ .exc y S' := by
  intro x S y S' h
  unfold lcStep M.calm at h
  split at h <;> cases h
abbrev blkOf (X : Cx) (scope : Scope) (s : Shared) (H : Hp) (C : Addr) (cl : List (Str × Addr)) (fp : List Addr) : Cx := X.blk s H scope (compEnvC scope cl C X.env) fp
theorem PTs.imp {X : Cx} {es : List Expr} {t t' : TT} (h : PTs X es t) (k : ∀ σ H Q, t' σ H Q → t σ H Q) : PTs X es t' := ⟨fun pins s σ H Q I q => h.run pins s σ H Q I (k σ H Q q)⟩
/-- the reading of one for -/
theorem lc_read {W : WX} {t : T} {vs : List Nat} {mI : Env → M (List D)} {mc : Env → M Bool} {me : Env → M D} {σ : L2.St} {H : Hp} {Q : VK} (hsl : ∀ i ∈ t.slots, i ∈ vs)
    (h : tE K W (fun ρ => M.bnd (mI ρ) fun xs => M.bnd (lcM (lcStep t vs mc me ρ) [] xs) fun ys => M.ret (.own ys)) σ H Q) :
    tLc (tI K W mI) (tG K t) (tT K W0 mc) (tM K W0 (r0 K) fun ρ => M.bnd (me ρ) handM) vs σ H Q := by
  obtain ⟨G, ρ, S, Hin, A, h⟩ := h
  refine ⟨G, ρ, S, Hin, A, ?_⟩
  have h : Post K W σ (rVal K) G H (M.bnd (mI ρ) (fun xs => M.bnd (lcM (lcStep t vs mc me ρ) [] xs) fun ys => M.ret (.own ys)) S) Q := h
  cases e : mI ρ S with
  | bad => rw [M.bnd_bad e] at h; exact h.elim
  | exc y S' => rw [M.bnd_exc e] at h; exact h
  | ok xs S1 =>
    rw [M.bnd_ok e] at h
    intro J G1 H1 x1 wk R1 p hp
    have A1 : RelE K Hin G1 H1 σ ρ := A.env.ext x1
    have h := Post.from rVal.mono x1 h
    refine ⟨fun i m H => ∃ G S acc, Mk K G1 H1 p G H S acc ∧ m = xs.length - i ∧ Post K W σ (rVal K) G1 H1 (M.bnd (lcM (lcStep t vs mc me ρ) acc (xs.drop i)) (fun ys => M.ret (.own ys)) S) Q,
      ⟨_, G1, S1, [], Mk.start R1 hp, rfl, by rw [List.drop_zero]; exact h⟩, ?_⟩
    rintro i m H2 ⟨G2, S2, acc, mk, rfl, h2⟩
    obtain ⟨wi, we⟩ := wk G2 H2 (mk.ext.weak fun c z => absurd rfl z)
    cases hx : xs[i]? with
    | none =>
      have hl : xs.length ≤ i := List.getElem?_eq_none_iff.mp hx
      rw [List.drop_eq_nil_of_le hl] at h2
      refine .inl ⟨we i hl, ?_⟩
      obtain ⟨ws, h3, h4⟩ := mk.at_
      exact h2 (.ref p) G2 H2 mk.ext ⟨.own h3 mk.nz mk.ni h4, fun _ => ⟨p, rfl, mk.new⟩⟩ mk.st
    | some d =>
      have hl : i < xs.length := (List.getElem?_eq_some_iff.mp hx).1
      rw [drop_get hx] at h2
      obtain ⟨o, S3, e3, hz, h3⟩ := lcM_cons lcStep_calm h2
      obtain ⟨go, yl⟩ := wi i d hx
      refine .inr ⟨go, fun H' => ∃ G S acc, Mk K G1 H1 p G H' S acc ∧ Post K W σ (rVal K) G1 H1 (M.bnd (lcM (lcStep t vs mc me ρ) acc (xs.drop (i + 1))) (fun ys => M.ret (.own ys)) S) Q, fun H' ⟨G', S', acc', mk', h'⟩ => ⟨_, Nat.sub_lt_sub_left hl (Nat.lt_succ_self i), G', S', acc', mk', rfl, h'⟩, fun x H3 hy => ?_⟩
      obtain ⟨gr, rx⟩ := yl x H3 hy
      have mk3 : Mk K G1 H1 p G2 H3 S2 acc := mk.grow (Ext.same gr mk.st.zt) (mk.st.same gr)
      exact lc_turn A1 mk3 (rx S2 mk.st) hsl e3 hz fun G' H' mk' => ⟨G', S3, _, mk', h3⟩
theorem s_lc {W : WX} {elt tg iter : Expr} {ifs : List Expr} {scope : Scope} {own : List (Str × Nat)} {pos : Pos} {t : T} {mI : Env → M (List D)} {mc : Env → M Bool} {me : Env → M D} (hc : X.calm = true) (hN : X.N.Nodup) (hi : PI X tg iter (tI X.K W mI)) (ok : BlkOk X.N X.env.scope scope own)
    (hg : ∀ s H C cl fp, PG (blkOf X scope s H C cl fp) tg (tG X.K t)) (ht : ∀ s H C cl fp, PTs (blkOf X scope s H C cl fp) ifs (tT X.K W0 mc)) (he : ∀ s H C cl fp, PE (blkOf X scope s H C cl fp) elt (tE X.K W0 me))
    (hs : ∀ x, foldedSetIterable iter X.env x = pure x) (hsl : ∀ i ∈ t.slots, i ∈ own.map (·.2)) :
    PE X (.ListComp elt [⟨tg, iter, ifs, 0⟩] scope pos) (tE X.K W fun ρ => M.bnd (mI ρ) fun xs => M.bnd (lcM (lcStep t (own.map (·.2)) mc me ρ) [] xs) fun ys => M.ret (.own ys)) :=
  PE.imp (pe_lc hc hN hi ok hg ht (fun s H C cl fp => s_hand (he s H C cl fp)) hs) fun σ H Q h => lc_read hsl h
/-- one item of the outer for -/
def lc2Step (t : T) (vs vs1 : List Nat) (mc : Env → M Bool) (mI2 : Env → M (List D)) (t2 : T) (mc2 : Env → M Bool) (me : Env → M D) (ρ : Env) (x : D) (acc : List D) : M (List D) :=
  M.bnd (M.calm (M.ofO (asgT t x (wipeE ρ vs)))) fun ρ2 => M.bnd (M.calm (mc ρ2)) fun k => if k then M.bnd (M.calm (mI2 ρ2)) fun ys => lcM (lcStep t2 vs1 mc2 me ρ2) acc ys else M.ret acc
theorem lcM_calm {f : D → M (Option D)} (hf : ∀ x S y S', f x S ≠ .exc y S') : ∀ (xs acc : List D) (S : Store) y S', lcM f acc xs S ≠ .exc y S'
  | [], acc, S, y, S' => fun h => by cases h
  | x :: xs, acc, S, y, S' => fun h => by
    have h : M.bnd (f x) (fun o => if acc.length < sizeLine then lcM f (acc ++ o.toList) xs else M.bad) S = .exc y S' := h
    cases e : f x S with
    | bad => rw [M.bnd_bad e] at h; cases h
    | exc z S1 => exact hf x S z S1 e
    | ok o S1 =>
      rw [M.bnd_ok e] at h
      by_cases hz : acc.length < sizeLine
      · rw [if_pos hz] at h
        exact lcM_calm hf xs _ S1 y S' h
      · rw [if_neg hz] at h
        cases h
theorem calm_cases {α : Type} (m : M α) (S : Store) : M.calm m S = .bad ∨ ∃ a S', M.calm m S = .ok a S' ∧ m S = .ok a S' := by
  unfold M.calm
  split
  · rename_i a S' e
    exact .inr ⟨a, S', rfl, e⟩
  · exact .inl rfl
theorem lc2Step_ok {t : T} {vs vs1 : List Nat} {mc : Env → M Bool} {mI2 : Env → M (List D)} {t2 : T} {mc2 : Env → M Bool} {me : Env → M D} {ρ : Env} {x : D} {acc acc' : List D} {S S' : Store} (h : lc2Step t vs vs1 mc mI2 t2 mc2 me ρ x acc S = .ok acc' S') :
    ∃ ρ2 k S1, asgT t x (wipeE ρ vs) = some ρ2 ∧ mc ρ2 S = .ok k S1 ∧ ((k = false ∧ acc' = acc ∧ S' = S1) ∨ (k = true ∧ ∃ ys S2, mI2 ρ2 S1 = .ok ys S2 ∧ lcM (lcStep t2 vs1 mc2 me ρ2) acc ys S2 = .ok acc' S')) := by
  unfold lc2Step at h
  rcases calm_cases (M.ofO (asgT t x (wipeE ρ vs))) S with e | ⟨ρ2, S0, e, e0⟩
  · rw [M.bnd_bad e] at h; cases h
  · rw [M.bnd_ok e] at h
    cases ea : asgT t x (wipeE ρ vs) with
    | none => rw [ea] at e0; cases e0
    | some ρ3 =>
      rw [ea] at e0
      cases e0
      rcases calm_cases (mc ρ2) S with e2 | ⟨k, S1, e2, e3⟩
      · rw [M.bnd_bad e2] at h; cases h
      · rw [M.bnd_ok e2] at h
        refine ⟨ρ2, k, S1, rfl, e3, ?_⟩
        cases k with
        | false =>
          have h : M.ret acc S1 = .ok acc' S' := h
          cases h
          exact .inl ⟨rfl, rfl, rfl⟩
        | true =>
          have h : M.bnd (M.calm (mI2 ρ2)) (fun ys => lcM (lcStep t2 vs1 mc2 me ρ2) acc ys) S1 = .ok acc' S' := h
          rcases calm_cases (mI2 ρ2) S1 with e4 | ⟨ys, S2, e4, e5⟩
          · rw [M.bnd_bad e4] at h; cases h
          · rw [M.bnd_ok e4] at h
            exact .inr ⟨rfl, ys, S2, e5, h⟩
theorem lc2Step_calm {t : T} {vs vs1 : List Nat} {mc : Env → M Bool} {mI2 : Env → M (List D)} {t2 : T} {mc2 : Env → M Bool} {me : Env → M D} {ρ : Env} : ∀ x acc S y S', lc2Step t vs vs1 mc mI2 t2 mc2 me ρ x acc S ≠ .exc y S' := by
  intro x acc S y S' h
  unfold lc2Step at h
  rcases calm_cases (M.ofO (asgT t x (wipeE ρ vs))) S with e | ⟨ρ2, S0, e, _⟩
  · rw [M.bnd_bad e] at h; cases h
  · rw [M.bnd_ok e] at h
    rcases calm_cases (mc ρ2) S0 with e2 | ⟨k, S1, e2, _⟩
    · rw [M.bnd_bad e2] at h; cases h
    · rw [M.bnd_ok e2] at h
      cases k with
      | false => cases h
      | true =>
        have h : M.bnd (M.calm (mI2 ρ2)) (fun ys => lcM (lcStep t2 vs1 mc2 me ρ2) acc ys) S1 = .exc y S' := h
        rcases calm_cases (mI2 ρ2) S1 with e4 | ⟨ys, S2, e4, _⟩
        · rw [M.bnd_bad e4] at h; cases h
        · rw [M.bnd_ok e4] at h
          exact lcM_calm lcStep_calm _ _ _ _ _ h
/-- the inner for -/
theorem lc_inner {Hin : Hp} {G1 G : Gh} {H1 H : Hp} {σ : L2.St} {ρ : Env} {S S2 S' : Store} {p : Addr} {acc acc' ys : List D} {t : T} {vs : List Nat} {mc : Env → M Bool} {me : Env → M D} {mI : Env → M (List D)} {Nx : Hp → Prop}
    (A : At K Hin G H σ ρ S) (m : Mk K G1 H1 p G H S acc) (hsl : ∀ i ∈ t.slots, i ∈ vs) (hI : mI ρ S = .ok ys S2) (hst : lcM (lcStep t vs mc me ρ) acc ys S2 = .ok acc' S')
    (k : ∀ G' H', Mk K G1 H1 p G' H' S' acc' → Nx H') (hBo : OwnIn H1 σ ρ) :
    tI K W0 mI σ H fun J1 H4 => ∃ W1 : Nat → Nat → Hp → Prop, (∃ m, W1 0 m H4) ∧ ∀ j k H, W1 j k H →
      (J1.stop j H ∧ Nx H) ∨ (J1.go j H ∧ ∃ Nx1 : Hp → Prop, (∀ H', Nx1 H' → ∃ k', k' < k ∧ W1 (j + 1) k' H') ∧ ∀ x H', J1.yld j H x H' → tG K t x (wipe σ vs) H' fun σ3 H5 => wipe σ3 vs = wipe σ vs ∧ tT K W0 mc σ3 H5 fun b H6 =>
        if b = true then tM K W0 (r0 K) (fun ρ => M.bnd (me ρ) handM) σ3 H6 fun y H7 => ∃ acc, H7 p = some (.lst acc) ∧ acc.length < sizeLine ∧ Nx1 (upd H7 p (.lst (acc ++ [y]))) else Nx1 H6) := by
  refine ⟨G, ρ, S, Hin, A, ?_⟩
  rw [hI]
  intro J G2 H2 x2 wk R2
  have m2 := m.grow x2 R2
  refine ⟨fun i n H => ∃ G S acc, Mk K G1 H1 p G H S acc ∧ Ext H1 G2 H2 G H ∧ n = ys.length - i ∧ lcM (lcStep t vs mc me ρ) acc (ys.drop i) S = .ok acc' S', ⟨_, G2, S2, acc, m2, Ext.refl _ _ _, rfl, by rw [List.drop_zero]; exact hst⟩, ?_⟩
  rintro i n H3 ⟨G3, S3, ac, mk, ex, rfl, h3⟩
  obtain ⟨wi, we⟩ := wk G3 H3 (ex.weak fun c z => absurd rfl z)
  cases hx : ys[i]? with
  | none =>
    have hl : ys.length ≤ i := List.getElem?_eq_none_iff.mp hx
    rw [List.drop_eq_nil_of_le hl] at h3
    cases h3
    exact .inl ⟨we i hl, k G3 H3 mk⟩
  | some d =>
    have hl : i < ys.length := (List.getElem?_eq_some_iff.mp hx).1
    rw [drop_get hx] at h3
    obtain ⟨go, yl⟩ := wi i d hx
    have h3 : M.bnd (lcStep t vs mc me ρ d) (fun o => if ac.length < sizeLine then lcM (lcStep t vs mc me ρ) (ac ++ o.toList) (ys.drop (i + 1)) else M.bad) S3 = .ok acc' S' := h3
    cases e : lcStep t vs mc me ρ d S3 with
    | bad => rw [M.bnd_bad e] at h3; cases h3
    | exc z S4 => exact absurd e (lcStep_calm _ _ _ _)
    | ok o S4 =>
      rw [M.bnd_ok e] at h3
      by_cases hz : ac.length < sizeLine
      · rw [if_pos hz] at h3
        refine .inr ⟨go, fun H' => ∃ G S acc, Mk K G1 H1 p G H' S acc ∧ Ext H1 G2 H2 G H' ∧ lcM (lcStep t vs mc me ρ) acc (ys.drop (i + 1)) S = .ok acc' S', fun H' ⟨G', S', acc', mk', ex', h'⟩ => ⟨_, Nat.sub_lt_sub_left hl (Nat.lt_succ_self i), G', S', acc', mk', ex', rfl, h'⟩, fun x H4 hy => ?_⟩
        obtain ⟨gr, rx⟩ := yl x H4 hy
        have eg := Ext.same gr mk.st.zt
        have mk4 : Mk K G1 H1 p G3 H4 S3 ac := mk.grow eg (mk.st.same gr)
        have ex4 : Ext H1 G2 H2 G3 H4 := ex.trans (eg.weak mk.ext.trk)
        -- the list in the making is told from this state on
        have E4 : RelE K Hin G3 H4 σ ρ := (A.env.ext x2).extB hBo ex4
        obtain ⟨ρ', kk, S5, e1, e2, e3⟩ := lcStep_ok e
        refine ⟨G3, d, wipeE ρ vs, ρ', S3, Hin, ⟨E4.wipe vs, mk4.st⟩, rx S3 mk.st, e1, fun σ' A' w ow => ⟨by rw [w vs hsl, wipe_wipe fun i hi => hi], ?_⟩⟩
        refine ⟨G3, ρ', S3, Hin, A', ?_⟩
        rw [e2]
        intro b G5 H5 x5 r5 R5
        have r5 : b = kk := r5
        subst r5
        have m5 := mk4.grow x5 R5
        have ex5 : Ext H1 G2 H2 G5 H5 := ex4.trans (x5.weak mk4.ext.trk)
        rcases e3 with ⟨rfl, rfl, rfl⟩ | ⟨rfl, y, e4, rfl⟩
        · rw [if_neg (by simp)]
          refine ⟨G5, S4, ac, m5, ex5, ?_⟩
          rw [show ac ++ (none : Option D).toList = ac by simp] at h3
          exact h3
        · rw [if_pos rfl]
          refine ⟨G5, ρ', S5, Hin, ⟨A'.env.ext x5, R5⟩, ?_⟩
          show Post K W0 σ' (r0 K) G5 H5 (M.bnd (me ρ') handM S5) _
          rw [e4]
          intro w G6 H6 x6 r6 R6
          have m6 := m5.grow x6 R6
          have ex6 : Ext H1 G2 H2 G6 H6 := ex5.trans (x6.weak m5.ext.trk)
          obtain ⟨ws, q1, q2⟩ := m6.at_
          refine ⟨ws, q1, by rw [q2.length]; exact hz, G6, S4, _, m6.push r6 q1, ex6.trans (Ext.ownUpd q1 m6.nz m6.new), h3⟩
      · rw [if_neg hz] at h3
        cases h3
theorem lcF_cons {f : D → List D → M (List D)} {acc xs : List D} {x : D} {S : Store} {α β : Type} {Re : Rel α β} {W : WX} {σ : L2.St} {G : Gh} {H : Hp} {Q : β → Hp → Prop} {g : List D → M α} (hf : ∀ x acc S y S', f x acc S ≠ .exc y S')
    (h : Post K W σ Re G H (M.bnd (lcF f acc (x :: xs)) g S) Q) : ∃ acc' S', f x acc S = .ok acc' S' ∧ Post K W σ Re G H (M.bnd (lcF f acc' xs) g S') Q := by
  cases e : f x acc S with
  | bad =>
    rw [M.bnd_bad (show lcF f acc (x :: xs) S = .bad from M.bnd_bad e)] at h
    exact h.elim
  | exc y S' => exact absurd e (hf x acc S y S')
  | ok acc' S' =>
    have e1 : lcF f acc (x :: xs) S = lcF f acc' xs S' := M.bnd_ok e
    refine ⟨acc', S', rfl, ?_⟩
    have e2 : M.bnd (lcF f acc (x :: xs)) g S = M.bnd (lcF f acc' xs) g S' := by unfold M.bnd; rw [e1]
    rw [e2] at h
    exact h
theorem lc2_read {W : WX} {t t2 : T} {vs vs1 : List Nat} {mI mI2 : Env → M (List D)} {mc mc2 : Env → M Bool} {me : Env → M D} {σ : L2.St} {H : Hp} {Q : VK} (hsl : ∀ i ∈ t.slots, i ∈ vs) (hsl2 : ∀ i ∈ t2.slots, i ∈ vs1)
    (h : tE K W (fun ρ => M.bnd (mI ρ) fun xs => M.bnd (lcF (lc2Step t vs vs1 mc mI2 t2 mc2 me ρ) [] xs) fun ys => M.ret (.own ys)) σ H Q) :
    tLc2 (tI K W mI) (tG K t) (tT K W0 mc) (tI K W0 mI2) (tG K t2) (tT K W0 mc2) (tM K W0 (r0 K) fun ρ => M.bnd (me ρ) handM) vs vs1 σ H Q := by
  obtain ⟨G, ρ, S, Hin, A, h⟩ := h
  refine ⟨G, ρ, S, Hin, A, ?_⟩
  have h : Post K W σ (rVal K) G H (M.bnd (mI ρ) (fun xs => M.bnd (lcF (lc2Step t vs vs1 mc mI2 t2 mc2 me ρ) [] xs) fun ys => M.ret (.own ys)) S) Q := h
  cases e : mI ρ S with
  | bad => rw [M.bnd_bad e] at h; exact h.elim
  | exc y S' => rw [M.bnd_exc e] at h; exact h
  | ok xs S1 =>
    rw [M.bnd_ok e] at h
    intro J G1 H1 x1 wk R1 p hp
    have A1 : RelE K Hin G1 H1 σ ρ := A.env.ext x1
    have h := Post.from rVal.mono x1 h
    refine ⟨fun i m H => ∃ G S acc, Mk K G1 H1 p G H S acc ∧ m = xs.length - i ∧ Post K W σ (rVal K) G1 H1 (M.bnd (lcF (lc2Step t vs vs1 mc mI2 t2 mc2 me ρ) acc (xs.drop i)) (fun ys => M.ret (.own ys)) S) Q,
      ⟨_, G1, S1, [], Mk.start R1 hp, rfl, by rw [List.drop_zero]; exact h⟩, ?_⟩
    rintro i m H2 ⟨G2, S2, acc, mk, rfl, h2⟩
    obtain ⟨wi, we⟩ := wk G2 H2 (mk.ext.weak fun c z => absurd rfl z)
    cases hx : xs[i]? with
    | none =>
      have hl : xs.length ≤ i := List.getElem?_eq_none_iff.mp hx
      rw [List.drop_eq_nil_of_le hl] at h2
      refine .inl ⟨we i hl, ?_⟩
      obtain ⟨ws, h3, h4⟩ := mk.at_
      exact h2 (.ref p) G2 H2 mk.ext ⟨.own h3 mk.nz mk.ni h4, fun _ => ⟨p, rfl, mk.new⟩⟩ mk.st
    | some d =>
      have hl : i < xs.length := (List.getElem?_eq_some_iff.mp hx).1
      rw [drop_get hx] at h2
      obtain ⟨acc', S3, e3, h3⟩ := lcF_cons lc2Step_calm h2
      obtain ⟨go, yl⟩ := wi i d hx
      refine .inr ⟨go, fun H' => ∃ G S acc, Mk K G1 H1 p G H' S acc ∧ Post K W σ (rVal K) G1 H1 (M.bnd (lcF (lc2Step t vs vs1 mc mI2 t2 mc2 me ρ) acc (xs.drop (i + 1))) (fun ys => M.ret (.own ys)) S) Q, fun H' ⟨G', S', acc', mk', h'⟩ => ⟨_, Nat.sub_lt_sub_left hl (Nat.lt_succ_self i), G', S', acc', mk', rfl, h'⟩, fun x H3 hy => ?_⟩
      obtain ⟨gr, rx⟩ := yl x H3 hy
      have mk3 : Mk K G1 H1 p G2 H3 S2 acc := mk.grow (Ext.same gr mk.st.zt) (mk.st.same gr)
      obtain ⟨ρ2, k, S4, q1, q2, q3⟩ := lc2Step_ok e3
      have E3 : RelE K Hin G2 H3 σ ρ := A1.extB A1.ownIn mk3.ext
      refine ⟨G2, d, wipeE ρ vs, ρ2, S2, Hin, ⟨E3.wipe vs, mk3.st⟩, rx S2 mk.st, q1, fun σ' A' w ow => ⟨by rw [w vs hsl, wipe_wipe fun i hi => hi], ?_⟩⟩
      refine ⟨G2, ρ2, S2, Hin, A', ?_⟩
      rw [q2]
      intro b G4 H4 x4 r4 R4
      have r4 : b = k := r4
      subst r4
      have m4 := mk3.grow x4 R4
      rcases q3 with ⟨rfl, rfl, rfl⟩ | ⟨rfl, ys, S5, q4, q5⟩
      · rw [if_neg (by simp)]
        exact ⟨G4, S3, acc', m4, h3⟩
      · rw [if_pos rfl]
        have A4 : At K Hin G4 H4 σ' ρ2 S4 := ⟨A'.env.ext x4, R4⟩
        exact lc_inner A4 m4 hsl2 q4 q5 (fun G' H' mk' => ⟨G', S3, acc', mk', h3⟩) (ow H1 (A1.ownIn.wipe vs))
theorem s_lc2 {W : WX} {elt tg iter tg1 iter1 : Expr} {ifs ifs1 : List Expr} {scope : Scope} {own : List (Str × Nat)} {vs1 : List Nat} {pos : Pos} {t t2 : T} {mI mI2 : Env → M (List D)} {mc mc2 : Env → M Bool} {me : Env → M D} (hc : X.calm = true) (hN : X.N.Nodup) (hi : PI X tg iter (tI X.K W mI)) (ok : BlkOk X.N X.env.scope scope own)
    (hv : ∀ i ∈ vs1, i ∈ own.map (·.2)) (hg : ∀ s H C cl fp, PG (blkOf X scope s H C cl fp) tg (tG X.K t)) (ht : ∀ s H C cl fp, PTs (blkOf X scope s H C cl fp) ifs (tT X.K W0 mc))
    (hi1 : ∀ s H C cl fp, PI (blkOf X scope s H C cl fp) tg1 iter1 (tI X.K W0 mI2)) (hg1 : ∀ s H C cl fp, PG (blkOf X scope s H C cl fp) tg1 (tG X.K t2)) (ht1 : ∀ s H C cl fp, PTs (blkOf X scope s H C cl fp) ifs1 (tT X.K W0 mc2))
    (he : ∀ s H C cl fp, PE (blkOf X scope s H C cl fp) elt (tE X.K W0 me)) (hs : ∀ x, foldedSetIterable iter X.env x = pure x) (hs1 : ∀ env x, foldedSetIterable iter1 env x = pure x) (hsl : ∀ i ∈ t.slots, i ∈ own.map (·.2)) (hsl2 : ∀ i ∈ t2.slots, i ∈ vs1) :
    PE X (.ListComp elt [⟨tg, iter, ifs, 0⟩, ⟨tg1, iter1, ifs1, 0⟩] scope pos) (tE X.K W fun ρ => M.bnd (mI ρ) fun xs => M.bnd (lcF (lc2Step t (own.map (·.2)) vs1 mc mI2 t2 mc2 me ρ) [] xs) fun ys => M.ret (.own ys)) :=
  PE.imp (pe_lc2 hc hN hi ok hv hg ht hi1 hg1 ht1 (fun s H C cl fp => s_hand (he s H C cl fp)) hs hs1) fun σ H Q h => lc2_read hsl hsl2 h
end
end WB
namespace WB
open PySem L2

def PostS (K : PySem.W.Frag) (W : WX) (Hin : Hp) (G : Gh) (H : Hp) (r : WB.R Fl) (D : Ends) : Prop := match r with
  | .ok (.nx ρ) S => ∀ σ' G' H', Ext Hin G H G' H' → At K Hin G' H' σ' ρ S → D.nx σ' H'
  | .ok (.bk ρ) S => ∀ σ' G' H', Ext Hin G H G' H' → At K Hin G' H' σ' ρ S → D.bk σ' H'
  | .ok (.ct ρ) S => ∀ σ' G' H', Ext Hin G H G' H' → At K Hin G' H' σ' ρ S → D.ct σ' H'
  | .ok (.rt d) S => ∀ v G' H', Ext Hin G H G' H' → RlF K Hin G' H' v d → (∀ xs, d ≠ .bor xs) → RelS K G' H' S → D.rt v H'
  | .ok (.ex x ρ) S => ∀ cls dd σ' G' H', Ext Hin G H G' H' → XRel K G' H' x cls dd → At K Hin G' H' σ' ρ S → W cls dd σ' H'
  | .exc _ _ => False
  | .bad => False
theorem PostS.from {K : PySem.W.Frag} {W : WX} {Hin : Hp} {G G1 : Gh} {H H1 : Hp} {r : WB.R Fl} {D : Ends} (e : Ext Hin G H G1 H1) (h : PostS K W Hin G H r D) : PostS K W Hin G1 H1 r D := by
  cases r with
  | bad => exact h
  | exc _ _ => exact h
  | ok f S =>
    cases f with
    | nx ρ => exact fun σ' G' H' e' a => h σ' G' H' (e.trans e') a
    | bk ρ => exact fun σ' G' H' e' a => h σ' G' H' (e.trans e') a
    | ct ρ => exact fun σ' G' H' e' a => h σ' G' H' (e.trans e') a
    | rt d => exact fun v G' H' e' r => h v G' H' (e.trans e') r
    | ex x ρ => exact fun cls dd σ' G' H' e' r a => h cls dd σ' G' H' (e.trans e') r a
/-- other ends for other flows -/
theorem PostS.ends {K : PySem.W.Frag} {W : WX} {Hin : Hp} {G : Gh} {H : Hp} {r : WB.R Fl} {D D' : Ends} (h : PostS K W Hin G H r D) (h1 : ∀ ρ S, r = .ok (.nx ρ) S → ∀ σ' G' H', Ext Hin G H G' H' → At K Hin G' H' σ' ρ S → D'.nx σ' H')
    (h2 : D'.rt = D.rt) (h3 : ∀ ρ S, r = .ok (.bk ρ) S → ∀ σ' G' H', Ext Hin G H G' H' → At K Hin G' H' σ' ρ S → D'.bk σ' H') (h4 : ∀ ρ S, r = .ok (.ct ρ) S → ∀ σ' G' H', Ext Hin G H G' H' → At K Hin G' H' σ' ρ S → D'.ct σ' H') : PostS K W Hin G H r D' := by
  cases r with
  | bad => exact h
  | exc _ _ => exact h
  | ok f S =>
    cases f with
    | nx ρ => exact h1 ρ S rfl
    | bk ρ => exact h3 ρ S rfl
    | ct ρ => exact h4 ρ S rfl
    | rt d => exact fun v G' H' e' r q s => by rw [h2]; exact h v G' H' e' r q s
    | ex x ρ => exact h
def tS (K : PySem.W.Frag) (W : WX) (m : Env → M Fl) : TS := fun D σ H => ∃ G ρ S Hin, At K Hin G H σ ρ S ∧ PostS K W Hin G H (m ρ S) D
/-- a piece of a statement -/
theorem tS_try {K : PySem.W.Frag} {W : WX} {σ : L2.St} {α β : Type} {Ra : Rel α β} {Hin : Hp} {G : Gh} {H : Hp} {ρ : Env} {S : Store} {m : Env → M α} {f : α → M Fl} {D : Ends}
    (A : At K Hin G H σ ρ S) (h : PostS K W Hin G H (tryM (m ρ) ρ f S) D) {Q' : β → Hp → Prop}
    (k : ∀ v d G1 H1 S1, Ext H G H G1 H1 → At K Hin G1 H1 σ ρ S1 → Ra H G1 H1 v d → PostS K W Hin G1 H1 (f d S1) D → Q' v H1) : tM K W Ra m σ H Q' := by
  refine ⟨G, ρ, S, Hin, A, ?_⟩
  unfold tryM at h
  cases e : m ρ S with
  | bad => rw [e] at h; exact h
  | exc x S' =>
    rw [e] at h
    exact fun cls dd G' H' x1 r R => h cls dd σ G' H' (x1.weak A.env.hin) r ⟨A.env.ext x1, R⟩
  | ok d S' =>
    rw [e] at h
    exact fun v G' H' x q r => k v d G' H' S' x ⟨A.env.ext x, r⟩ q (PostS.from (x.weak A.env.hin) h)
theorem tI_try {K : PySem.W.Frag} {W : WX} {σ : L2.St} {Hin : Hp} {G : Gh} {H : Hp} {ρ : Env} {S : Store} {m : Env → M (List WB.D)} {f : List WB.D → M Fl} {D : Ends}
    (A : At K Hin G H σ ρ S) (h : PostS K W Hin G H (tryM (m ρ) ρ f S) D) {Q' : It → Hp → Prop}
    (k : ∀ J xs G1 H1 S1, Ext H G H G1 H1 → At K Hin G1 H1 σ ρ S1 → Wk K G1 H1 J xs → PostS K W Hin G1 H1 (f xs S1) D → Q' J H1) : tI K W m σ H Q' := by
  refine ⟨G, ρ, S, Hin, A, ?_⟩
  unfold tryM at h
  cases e : m ρ S with
  | bad => rw [e] at h; exact h
  | exc x S' =>
    rw [e] at h
    exact fun cls dd G' H' x1 r R => h cls dd σ G' H' (x1.weak A.env.hin) r ⟨A.env.ext x1, R⟩
  | ok d S' =>
    rw [e] at h
    exact fun v G' H' x q r => k v d G' H' S' x ⟨A.env.ext x, r⟩ q (PostS.from (x.weak A.env.hin) h)
theorem PostS.nx {K : PySem.W.Frag} {W : WX} {Hin : Hp} {G : Gh} {H : Hp} {ρ : Env} {S : Store} {D : Ends} (h : PostS K W Hin G H (M.ret (Fl.nx ρ) S) D) {σ : L2.St} (A : At K Hin G H σ ρ S) : D.nx σ H := h σ G H (Ext.refl _ _ _) A

section
variable {X : Cx} {W : WX}
theorem s_pass {pos : Pos} : PS X (.Pass pos) (tS X.K W fun ρ => M.ret (.nx ρ)) := PS.imp ps_pass fun D σ H ⟨G, ρ, S, Hin, A, h⟩ => h.nx A
theorem s_brk {pos : Pos} : PS X (.Break pos) (tS X.K W fun ρ => M.ret (.bk ρ)) := PS.imp ps_break fun D σ H ⟨G, ρ, S, Hin, A, h⟩ => h σ G H (Ext.refl _ _ _) A
theorem s_cnt {pos : Pos} : PS X (.Continue pos) (tS X.K W fun ρ => M.ret (.ct ρ)) := PS.imp ps_continue fun D σ H ⟨G, ρ, S, Hin, A, h⟩ => h σ G H (Ext.refl _ _ _) A
theorem s_never {st : Stmt} : PS X st (tS X.K W fun _ => M.bad) := PS.imp ps_never fun D σ H ⟨G, ρ, S, Hin, A, h⟩ => h.elim
theorem setI_if {ρ : Env} {i : Nat} {d : D} (n1 : ∀ xs, d ≠ .bor xs) (n2 : d ≠ .lam) : setI ρ i d = if i < ρ.length then M.ret (.nx (ρ.set i (some d))) else M.bad := by
  cases d <;> first | rfl | exact absurd rfl (n1 _) | exact absurd rfl n2
theorem setI_ok {ρ ρ1 : Env} {i : Nat} {d : D} (q : setI ρ i d = M.ret (.nx ρ1)) : i < ρ.length ∧ ρ1 = ρ.set i (some d) := by
  by_cases n1 : ∀ xs, d ≠ .bor xs
  · by_cases n2 : d = .lam
    · subst n2
      exact nomatch (congrFun q [])
    · rw [setI_if n1 n2] at q
      split at q
      · rename_i z
        have := congrFun q []
        simp only [M.ret] at this
        injection this with t1 _
        injection t1 with t2
        exact ⟨z, t2.symm⟩
      · exact nomatch (congrFun q [])
  · simp only [ne_eq, Classical.not_forall, Classical.not_not] at n1
    obtain ⟨xs, rfl⟩ := n1
    exact nomatch (congrFun q [])
/-- a value comes to a slot -/
theorem set_ok {K : PySem.W.Frag} {Hin H0 : Hp} {G : Gh} {H : Hp} {σ : L2.St} {ρ : Env} {S : Store} {i : Nat} {v : V} {d : D} {D : Ends} (A : At K Hin G H σ ρ S) (r : RlF K H0 G H v d) (hin : ∀ a, Hin a ≠ none → H0 a ≠ none) (how : OwnIn H0 σ ρ)
    {P : L2.St → Prop} (h : ∀ ρ', setI ρ i d = M.ret (.nx ρ') → At K Hin G H (σ.set i (some v)) ρ' S → P (σ.set i (some v))) (hb : setI ρ i d S ≠ .bad) : P (σ.set i (some v)) := by
  have n1 : ∀ xs, d ≠ .bor xs := fun xs e => by subst e; exact hb rfl
  have n2 : d ≠ .lam := fun e => by subst e; exact hb rfl
  rw [setI_if n1 n2] at hb h
  by_cases hi : i < ρ.length
  · simp only [if_pos hi] at h
    by_cases w : d.isOw = true
    · obtain ⟨r1, r2⟩ := r
      obtain ⟨a, e1, e2⟩ := r2 w
      subst e1
      exact h _ rfl ⟨A.env.setOw hi r1 w (Classical.byContradiction fun n => hin a n e2) fun j e _ we hj hs => how j e a we hj hs e2, A.st⟩
    · have r0 : Rl0 K G H v d := by
        cases r.1 with
        | base q => exact q
        | own _ _ _ _ => exact absurd rfl w
        | bor _ _ _ _ => exact absurd rfl (n1 _)
        | okd _ _ _ _ _ _ => exact absurd rfl w
        | lam _ _ _ => exact absurd rfl n2
      exact h _ rfl ⟨A.env.set0 hi r0, A.st⟩
  · rw [if_neg hi] at hb
    exact absurd rfl hb
theorem own_step {K : PySem.W.Frag} {G1 : Gh} {H0 H1 : Hp} {σ : L2.St} {ρ ρ1 : Env} {i : Nat} {v : V} {d : D} (el : σ.length = ρ.length) (o : OwnIn H0 σ ρ) (tr : ∀ a, H0 a ≠ none → H1 a ≠ none) (r : Rl K G1 H1 v d) (q : setI ρ i d = M.ret (.nx ρ1)) : OwnIn H1 (σ.set i (some v)) ρ1 := by
  obtain ⟨hi, rfl⟩ := setI_ok q
  intro l zs a w ea eb
  by_cases e : i = l
  · subst e
    rw [List.getElem?_set_self hi] at ea
    rw [List.getElem?_set_self (by rw [el]; exact hi)] at eb
    cases ea
    cases eb
    obtain ⟨b, u, e, z, _⟩ := r.ow w
    cases e
    rw [z]
    simp
  · rw [List.getElem?_set_ne e] at ea eb
    exact tr a (o l zs a w ea eb)
theorem s_asg {st : Stmt} {te : TE} {i : Nat} {m : Env → M D} (hps : PS X st (tAsg te (gName i))) (hte : ∀ σ H Q, tE X.K W m σ H Q → te σ H Q) : PS X st (tS X.K W fun ρ => tryM (m ρ) ρ (setI ρ i)) := by
  refine PS.imp hps fun D σ H ⟨G, ρ, S, Hin, A, h⟩ => hte _ _ _ ?_
  refine tS_try A h fun v d G1 H1 S1 x1 A1 r1 h1 => ?_
  show D.nx (σ.set i (some v)) H1
  refine set_ok (i := i) (P := fun σ' => D.nx σ' H1) (D := D) A1 r1 A.env.hin A.env.ownIn (fun ρ' e A' => ?_) fun z => by rw [z] at h1; exact h1
  rw [e] at h1
  exact h1.nx A'
theorem s_unp {st : Stmt} {ts : Ts} {m : Env → M D} (hps : PS X st (tAsg (tE X.K W m) (tG X.K (.tup ts)))) : PS X st (tS X.K W fun ρ => tryM (m ρ) ρ fun d => match asgT (.tup ts) d ρ with | some ρ' => M.ret (.nx ρ') | none => M.bad) := by
  refine PS.imp hps fun D σ H ⟨G, ρ, S, Hin, A, h⟩ => ?_
  refine tS_try A h fun v d G1 H1 S1 x1 A1 r1 h1 => ?_
  cases e : asgT (.tup ts) d ρ with
  | none => simp only [e] at h1; exact h1.elim
  | some ρ' =>
    simp only [e] at h1
    have r0 : Rl0 X.K G1 H1 v d := by
      cases r1.1 with
      | base q => exact q
      | own _ _ _ _ => simp [asgT] at e
      | bor _ _ _ _ => simp [asgT] at e
      | okd _ _ _ _ _ _ => simp [asgT] at e
      | lam _ _ _ => simp [asgT] at e
    exact ⟨G1, d, ρ, ρ', S1, Hin, A1, r0, e, fun σ' A' _ _ => h1.nx A'⟩
/-- two names, two values; a new tuple may come between -/
theorem par_ok {i j : Nat} {m1 m2 : Env → M D} {D : Ends} {σ : L2.St} {H : Hp} (hij : i ≠ j) (h : tS X.K W (fun ρ => tryM (m1 ρ) ρ fun x => tryM (m2 ρ) ρ fun y => seqM (setI ρ i x) fun ρ' => setI ρ' j y) D σ H) {Q : L2.St → Hp → Prop}
    (k : ∀ v w G2 H2 S2 Hin ρ', At X.K Hin G2 H2 ((σ.set i (some v)).set j (some w)) ρ' S2 → (∀ p o, H2 p = none → At X.K Hin G2 (upd H2 p o) ((σ.set i (some v)).set j (some w)) ρ' S2 → D.nx ((σ.set i (some v)).set j (some w)) (upd H2 p o)) → D.nx ((σ.set i (some v)).set j (some w)) H2 → Q ((σ.set i (some v)).set j (some w)) H2)  :
    tCons (tE X.K W m1) (tCons (tE X.K W m2) tNil) σ H fun vs H2 => ∃ v w, vs = [v, w] ∧ Q ((σ.set i (some v)).set j (some w)) H2 := by
  obtain ⟨G, ρ, S, Hin, A, h⟩ := h
  refine tS_try A h fun v d G1 H1 S1 x1 A1 r1 h1 => ?_
  refine tS_try A1 h1 fun w e G2 H2 S2 x2 A2 r2 h2 => ?_
  refine ⟨v, w, rfl, ?_⟩
  have r1' : RlF X.K H G2 H2 v d := ⟨r1.1.ext x2, r1.2⟩
  have h2 : PostS X.K W Hin G2 H2 (seqM (setI ρ i d) (fun ρ' => setI ρ' j e) S2) D := h2
  refine set_ok (i := i) (P := fun σ' => Q (σ'.set j (some w)) H2) (D := D) A2 r1' A.env.hin A.env.ownIn (fun ρ1 q1 B1 => ?_) fun z => by simp only [seqM, z] at h2; exact h2
  have h3 : PostS X.K W Hin G2 H2 (setI ρ1 j e S2) D := by
    simp only [seqM, q1, M.ret] at h2
    exact h2
  have own1 : OwnIn H1 (σ.set i (some v)) ρ1 := own_step A.env.len A.env.ownIn x1.trk r1.1 q1
  refine set_ok (i := j) (P := fun σ' => Q σ' H2) (D := D) B1 r2 (fun a n => x1.trk a (A.env.hin a n)) own1 (fun ρ2 q2 B2 => ?_) fun z => by rw [z] at h3; exact h3
  rw [q2] at h3
  refine k v w G2 H2 S2 Hin ρ2 B2 (fun p o hp B3 => ?_) (h3.nx B2)
  exact h3 _ G2 _ ((Ext.new B2.st hp).weak B2.env.hin) B3
theorem s_par {st : Stmt} {i j : Nat} {m1 m2 : Env → M D} (hij : i ≠ j) (hps : PS X st (tPar i j (tCons (tE X.K W m1) (tCons (tE X.K W m2) tNil)))) :
    PS X st (tS X.K W fun ρ => tryM (m1 ρ) ρ fun x => tryM (m2 ρ) ρ fun y => seqM (setI ρ i x) fun ρ' => setI ρ' j y) :=
  PS.imp hps fun D σ H h => par_ok hij h (Q := D.nx) fun v w G2 H2 S2 Hin ρ' A k q => q
/-- .. by way of a tuple -/
theorem s_parT {st : Stmt} {i j : Nat} {m1 m2 : Env → M D} (hij : i ≠ j) (hps : PS X st (tAsg (tTup (tCons (tE X.K W m1) (tCons (tE X.K W m2) tNil))) (gTup X.K 2 (gCons (gName i) (gCons (gName j) gNil))))) :
    PS X st (tS X.K W fun ρ => tryM (m1 ρ) ρ fun x => tryM (m2 ρ) ρ fun y => seqM (setI ρ i x) fun ρ' => setI ρ' j y) := by
  refine PS.imp hps fun D σ H h => ?_
  have q := par_ok hij h (Q := fun σ' H' => ∀ p o, H' p = none → D.nx σ' (upd H' p o)) fun v w G2 H2 S2 Hin ρ' A k q p o hp => k p o hp ⟨A.env.ext (Ext.new A.st hp), A.st.new hp⟩
  have mono : ∀ {Q Q' : List V → Hp → Prop}, (∀ vs H, Q vs H → Q' vs H) → tCons (tE X.K W m1) (tCons (tE X.K W m2) tNil) σ H Q → tCons (tE X.K W m1) (tCons (tE X.K W m2) tNil) σ H Q' := fun {Q Q'} hm h => by
    obtain ⟨G, ρ, S, Hin, A, h⟩ := h
    refine ⟨G, ρ, S, Hin, A, ?_⟩
    cases e : m1 ρ S with
    | bad => rw [e] at h; exact h
    | exc x S' => rw [e] at h; exact h
    | ok d S' =>
      rw [e] at h
      intro v G1 H1 x1 r1 R1
      obtain ⟨G', ρ', S1, Hin', A', h'⟩ := h v G1 H1 x1 r1 R1
      refine ⟨G', ρ', S1, Hin', A', ?_⟩
      cases e2 : m2 ρ' S1 with
      | bad => rw [e2] at h'; exact h'
      | exc x S' => rw [e2] at h'; exact h'
      | ok d S' =>
        rw [e2] at h'
        exact fun v2 G2 H2 x2 r2 R2 => hm _ _ (h' v2 G2 H2 x2 r2 R2)
  refine mono (Q' := fun xs H1 => xs.length ≤ sizeLine ∧ ∀ p, H1 p = none → gTup X.K 2 (gCons (gName i) (gCons (gName j) gNil)) (.ref p) σ (upd H1 p (.tup xs)) D.nx) (fun vs H2 ⟨v, w, e, q⟩ => ?_) q
  subst e
  exact ⟨by show 2 ≤ sizeLine; decide, fun p hp => ⟨p, [v, w], rfl, SqT.of upd_same, rfl, v, [w], rfl, w, [], rfl, rfl, q p _ hp⟩⟩
theorem s_aug {st : Stmt} {i : Nat} {o : BOp} {m : Env → M D} (hps : PS X st (tAug i (tE X.K W m) fun x y H Q => ∃ a b c, x = .int a ∧ y = .int b ∧ augD o (.int a) (.int b) = some (.int c) ∧ Q (.int c) H)) :
    PS X st (tS X.K W fun ρ => tryM (ldE ρ i) ρ fun x => tryM (m ρ) ρ fun y => tryM (M.ofO (augD o x y)) ρ (setI ρ i)) := by
  refine PS.imp hps fun D σ H ⟨G, ρ, S, Hin, A, h⟩ => ?_
  have h : PostS X.K W Hin G H (tryM (ldE ρ i) ρ (fun x => tryM (m ρ) ρ fun y => tryM (M.ofO (augD o x y)) ρ (setI ρ i)) S) D := h
  cases e : ρ[i]? with
  | none => simp only [tryM, ldE, e, M.bad] at h; exact h.elim
  | some od =>
    cases od with
    | none => simp only [tryM, ldE, e, M.bad] at h; exact h.elim
    | some d =>
      obtain ⟨v, h1, h2, h3, h4⟩ := A.env.slot i _ e
      -- what is not a number is refused behind the other value
      have gen : ∀ d', ldE ρ i = M.ret d' → (∀ a, d' = .int a → d = .int a) → tAug i (tE X.K W m) (fun x y H Q => ∃ a b c, x = .int a ∧ y = .int b ∧ augD o (.int a) (.int b) = some (.int c) ∧ Q (.int c) H) D σ H := fun d' hd' hda => by
        rw [hd'] at h
        refine ⟨v, h1, ?_⟩
        have h : PostS X.K W Hin G H (tryM (m ρ) ρ (fun y => tryM (M.ofO (augD o d' y)) ρ (setI ρ i)) S) D := h
        refine tS_try A h fun u e2 G1 H1 S1 x1 A1 r1 q1 => ?_
        have nums : ∃ a b c, d' = .int a ∧ e2 = .int b ∧ augD o d' e2 = some (.int c) := by
          cases z : augD o d' e2 with
          | none => simp only [z] at q1; exact q1.elim
          | some c =>
            cases d' <;> cases e2 <;> cases o <;> simp only [augD, reduceCtorEq] at z
            · cases z; exact ⟨_, _, _, rfl, rfl, rfl⟩
            · cases z; exact ⟨_, _, _, rfl, rfl, rfl⟩
            · split at z
              · cases z; exact ⟨_, _, _, rfl, rfl, rfl⟩
              · cases z
        obtain ⟨a, b, c, e4, e5, e6⟩ := nums
        subst e4 e5
        have hdd := hda a rfl
        subst hdd
        refine ⟨a, b, c, h2.toInt, r1.1.toInt, e6, ?_⟩
        simp only [e6] at q1
        have q1 : PostS X.K W Hin G1 H1 (setI ρ i (.int c) S1) D := q1
        refine set_ok (i := i) (P := fun σ' => D.nx σ' H1) (D := D) (H0 := H1) (v := .int c) (d := .int c) A1 (RlF.base (.int c)) A1.env.hin A1.env.ownIn (fun ρ' q A' => ?_) fun z => by rw [z] at q1; exact q1
        rw [q] at q1
        exact q1.nx A'
      cases d with
      | own xs => exact gen (.bor xs) (by simp only [ldE, e]) (fun _ z => nomatch z)
      | bor xs => exact absurd rfl (h4 _)
      | okd _ _ => simp only [tryM, ldE, e, M.bad] at h; exact h.elim
      | lam => simp only [tryM, ldE, e, M.bad] at h; exact h.elim
      | _ => exact gen _ (by simp only [ldE, e]) (fun _ z => z)
theorem aug_int (o : BOp) (op : Operator) (ho : op = bopOf o) (h3 : o = .add ∨ o = .sub ∨ o = .mul) : PIp X op (fun x y H Q => ∃ a b c, x = .int a ∧ y = .int b ∧ augD o (.int a) (.int b) = some (.int c) ∧ Q (.int c) H) := by
  subst ho
  intro pins s σ H x y v u Q I rx ry ⟨a, b, c, e1, e2, e3, q⟩
  subst e1 e2
  rcases h3 with rfl | rfl | rfl
  · simp only [augD, Option.some.injEq, D.int.injEq] at e3
    subst e3
    exact iop_add pins s σ H _ _ v u Q I rx ry ⟨a, b, rfl, rfl, q⟩
  · simp only [augD, Option.some.injEq, D.int.injEq] at e3
    subst e3
    exact iop_sub pins s σ H _ _ v u Q I rx ry ⟨a, b, rfl, rfl, q⟩
  · simp only [augD] at e3
    split at e3
    · rename_i hz
      simp only [Option.some.injEq, D.int.injEq] at e3
      subst e3
      simp only [small, Bool.or_eq_true, decide_eq_true_eq] at hz
      exact iop_mul pins s σ H _ _ v u Q I rx ry ⟨a, b, rfl, rfl, hz, q⟩
    · cases e3
theorem s_expr {st : Stmt} {m : Env → M D} (hps : PS X st (tDrop (tE X.K W m))) : PS X st (tS X.K W fun ρ => tryM (m ρ) ρ fun _ => M.ret (.nx ρ)) := by
  refine PS.imp hps fun D σ H ⟨G, ρ, S, Hin, A, h⟩ => ?_
  exact tS_try A h fun v d G1 H1 S1 x1 A1 r1 h1 => h1.nx A1
theorem s_ret {st : Stmt} {m : Env → M D} (hps : PS X st (tRet (tE X.K W m))) : PS X st (tS X.K W fun ρ => tryM (m ρ) ρ fun d => match d with | .bor _ => M.bad | d => M.ret (.rt d)) := by
  refine PS.imp hps fun D σ H ⟨G, ρ, S, Hin, A, h⟩ => ?_
  refine tS_try A h fun v d G1 H1 S1 x1 A1 r1 h1 => ?_
  have fin : (∀ xs, d ≠ .bor xs) → PostS X.K W Hin G1 H1 (M.ret (.rt d) S1) D → D.rt v H1 := fun n h => h v G1 H1 (Ext.refl _ _ _) (rVal.mono _ _ _ _ _ _ A.env.hin r1) n A1.st
  cases d <;> first | exact h1.elim | exact fin (fun _ => nofun) h1
theorem s_retN {pos : Pos} : PS X (.Return none pos) (tS X.K W fun _ => M.ret (.rt .non)) := PS.imp ps_retN fun D σ H ⟨G, ρ, S, Hin, A, h⟩ => h .non G H (Ext.refl _ _ _) (RlF.base .non) (fun _ => nofun) A.st
theorem ownAt_some {ρ : Env} {i : Nat} {xs : List D} (h : ownAt ρ i = some xs) : ρ[i]? = some (some (.own xs)) := by
  unfold ownAt at h
  split at h
  · rename_i ys e
    cases h
    exact e
  · cases h
theorem s_retO {st : Stmt} {i : Nat} (hps : PS X st (tRet (tVar i))) : PS X st (tS X.K W fun ρ => match ownAt ρ i with | some xs => M.ret (.rt (.own xs)) | none => M.bad) := by
  refine PS.imp hps fun D σ H ⟨G, ρ, S, Hin, A, h⟩ => ?_
  cases e : ownAt ρ i with
  | none => simp only [e] at h; exact h.elim
  | some xs =>
    simp only [e] at h
    obtain ⟨v, h1, h2, h3, h4⟩ := A.env.slot i _ (ownAt_some e)
    exact ⟨v, h1, h v G H (Ext.refl _ _ _) ⟨h2, h3⟩ h4 A.st⟩
theorem s_if {st : Stmt} {mc : Env → M Bool} {m1 m2 : Env → M Fl} (hps : PS X st (tIfS (tT X.K W mc) (tS X.K W m1) (tS X.K W m2))) : PS X st (tS X.K W fun ρ => tryM (mc ρ) ρ fun k => if k then m1 ρ else m2 ρ) := by
  refine PS.imp hps fun D σ H ⟨G, ρ, S, Hin, A, h⟩ => ?_
  refine tS_try A h fun v d G1 H1 S1 x1 A1 r1 h1 => ?_
  cases r1
  cases v with
  | true => exact ⟨G1, ρ, S1, Hin, A1, h1⟩
  | false => exact ⟨G1, ρ, S1, Hin, A1, h1⟩
theorem s_nil : PSs X [] (tS X.K W fun ρ => M.ret (.nx ρ)) := PSs.imp pss_nil fun D σ H ⟨G, ρ, S, Hin, A, h⟩ => h.nx A
theorem seq_post {K : PySem.W.Frag} {Hin : Hp} {G : Gh} {H : Hp} {m1 : M Fl} {f : Env → M Fl} {S : Store} {D : Ends} (h : PostS K W Hin G H (seqM m1 f S) D) : PostS K W Hin G H (m1 S) { D with nx := fun σ' H' => ∃ G' ρ' S', At K Hin G' H' σ' ρ' S' ∧ Ext Hin G H G' H' ∧ PostS K W Hin G' H' (f ρ' S') D } := by
  unfold seqM at h
  cases e : m1 S with
  | bad => rw [e] at h; exact h
  | exc _ _ => rw [e] at h; exact h
  | ok fl S' =>
    rw [e] at h
    cases fl with
    | nx ρ' => exact fun σ' G' H' x A => ⟨G', ρ', S', A, x, PostS.from x h⟩
    | bk ρ' => exact h
    | ct ρ' => exact h
    | rt d => exact h
    | ex x ρ' => exact h
theorem s_seq {st : Stmt} {rest : List Stmt} {m1 m2 : Env → M Fl} (h1 : PS X st (tS X.K W m1)) (h2 : PSs X rest (tS X.K W m2)) : PSs X (st :: rest) (tS X.K W fun ρ => seqM (m1 ρ) m2) := by
  refine PSs.imp (pss_cons h1 h2) fun D σ H ⟨G, ρ, S, Hin, A, h⟩ => ⟨G, ρ, S, Hin, A, ?_⟩
  refine PostS.ends (seq_post h) (fun ρ' S' e σ' G' H' x A' => ?_) rfl (fun ρ' S' e => ?_) fun ρ' S' e => ?_
  · have q := seq_post h
    rw [e] at q
    obtain ⟨G2, ρ2, S2, A2, _, p2⟩ := q σ' G' H' x A'
    exact ⟨G2, ρ2, S2, Hin, A2, p2⟩
  · have q := seq_post h
    rw [e] at q
    exact q
  · have q := seq_post h
    rw [e] at q
    exact q
end
end WB
namespace WB
open PySem L2

section
variable {X : Cx} {W : WX}
def loopR (k : Env → M Fl) (r : WB.R Fl) : WB.R Fl := match r with
  | .ok (.nx ρ') S' => k ρ' S'
  | .ok (.ct ρ') S' => k ρ' S'
  | .ok (.bk ρ') S' => .ok (.nx ρ') S'
  | r => r
theorem loop_post {K : PySem.W.Frag} {Hin : Hp} {G : Gh} {H : Hp} {k : Env → M Fl} {r : WB.R Fl} {D : Ends} (h : PostS K W Hin G H (loopR k r) D) {N : L2.St → Hp → Prop}
    (hN : ∀ ρ' S', (r = .ok (.nx ρ') S' ∨ r = .ok (.ct ρ') S') → ∀ σ' G' H', Ext Hin G H G' H' → At K Hin G' H' σ' ρ' S' → PostS K W Hin G' H' (k ρ' S') D → N σ' H') : PostS K W Hin G H r { D with nx := N, ct := N, bk := D.nx } := by
  cases r with
  | bad => exact h
  | exc _ _ => exact h
  | ok f S =>
    cases f with
    | nx ρ => exact fun σ' G' H' e A => hN ρ S (.inl rfl) σ' G' H' e A (PostS.from e h)
    | ct ρ => exact fun σ' G' H' e A => hN ρ S (.inr rfl) σ' G' H' e A (PostS.from e h)
    | bk ρ => exact h
    | rt d => exact h
    | ex x ρ => exact h
theorem forM_cons (f : D → Env → M Fl) (x : D) (xs : List D) (ρ : Env) (S : Store) : forM f (x :: xs) ρ S = loopR (forM f xs) (f x ρ S) := by
  show (match f x ρ S with | .ok (.nx ρ') S' => forM f xs ρ' S' | .ok (.ct ρ') S' => forM f xs ρ' S' | .ok (.bk ρ') S' => .ok (.nx ρ') S' | r => r) = _
  unfold loopR
  cases f x ρ S with
  | bad => rfl
  | exc _ _ => rfl
  | ok fl S' => cases fl <;> rfl
theorem s_for {st : Stmt} {t : T} {mI : Env → M (List D)} {mb : Env → M Fl} (hps : PS X st (tFor (tI X.K W mI) (tG X.K t) (tS X.K W mb))) :
    PS X st (tS X.K W fun ρ => tryM (mI ρ) ρ fun xs => forM (fun x ρ => match asgT t x ρ with | some ρ' => mb ρ' | none => M.bad) xs ρ) := by
  refine PS.imp hps fun D σ H ⟨G, ρ, S, Hin, A, h⟩ => ?_
  refine tI_try A h fun J xs G1 H1 S1 x1 A1 wk h1 => ?_
  refine ⟨fun i m σ H => m = xs.length - i ∧ ∃ G ρ S, At X.K Hin G H σ ρ S ∧ Ext Hin G1 H1 G H ∧ PostS X.K W Hin G H (forM (fun x ρ => match asgT t x ρ with | some ρ' => mb ρ' | none => M.bad) (xs.drop i) ρ S) D,
    ⟨_, rfl, G1, ρ, S1, A1, Ext.refl _ _ _, by rw [List.drop_zero]; exact h1⟩, ?_⟩
  rintro i m σ2 H2 ⟨rfl, G2, ρ2, S2, A2, ex, h2⟩
  obtain ⟨wi, we⟩ := wk G2 H2 (ex.weak fun c z => absurd rfl z)
  cases hx : xs[i]? with
  | none =>
    have hl : xs.length ≤ i := List.getElem?_eq_none_iff.mp hx
    rw [List.drop_eq_nil_of_le hl] at h2
    exact .inl ⟨we i hl, PostS.nx h2 A2⟩
  | some d =>
    have hl : i < xs.length := (List.getElem?_eq_some_iff.mp hx).1
    rw [drop_get hx, forM_cons] at h2
    obtain ⟨go, yl⟩ := wi i d hx
    refine .inr ⟨go, fun σ' H' => ∃ G ρ S, At X.K Hin G H' σ' ρ S ∧ Ext Hin G1 H1 G H' ∧ PostS X.K W Hin G H' (forM (fun x ρ => match asgT t x ρ with | some ρ' => mb ρ' | none => M.bad) (xs.drop (i + 1)) ρ S) D,
      fun σ' H' ⟨G', ρ', S', A', ex', h'⟩ => ⟨_, Nat.sub_lt_sub_left hl (Nat.lt_succ_self i), rfl, G', ρ', S', A', ex', h'⟩, fun x H3 hy => ?_⟩
    obtain ⟨gr, rx⟩ := yl x H3 hy
    have eg := Ext.same gr A2.st.zt
    have A3 : At X.K Hin G2 H3 σ2 ρ2 S2 := ⟨A2.env.ext eg, A2.st.same gr⟩
    have ex3 : Ext Hin G2 H2 G2 H3 := eg.weak A2.env.hin
    cases e : asgT t d ρ2 with
    | none =>
      simp only [e] at h2
      exact h2.elim
    | some ρ3 =>
      simp only [e] at h2
      refine ⟨G2, d, ρ2, ρ3, S2, Hin, A3, rx S2 A2.st, e, fun σ' A' _ _ => ⟨G2, ρ3, S2, Hin, A', ?_⟩⟩
      refine loop_post (PostS.from ex3 h2) fun ρ' S' _ σ4 G4 H4 e4 A4 p4 => ⟨G4, ρ', S', A4, (ex.trans ex3).trans e4, p4⟩
theorem whlM_succ (c : Env → M Bool) (f : Env → M Fl) (n : Nat) (ρ : Env) : whlM c f (n + 1) ρ = tryM (c ρ) ρ fun k => if k then (fun S => loopR (whlM c f n) (f ρ S)) else M.ret (.nx ρ) := by
  have e : ∀ S, (match f ρ S with | .ok (.nx ρ') S' => whlM c f n ρ' S' | .ok (.ct ρ') S' => whlM c f n ρ' S' | .ok (.bk ρ') S' => .ok (.nx ρ') S' | r => r) = loopR (whlM c f n) (f ρ S) := fun S => by
    unfold loopR
    cases f ρ S with
    | bad => rfl
    | exc _ _ => rfl
    | ok fl S' => cases fl <;> rfl
  show (tryM (c ρ) ρ fun k => if k then (fun S => match f ρ S with | .ok (.nx ρ') S' => whlM c f n ρ' S' | .ok (.ct ρ') S' => whlM c f n ρ' S' | .ok (.bk ρ') S' => .ok (.nx ρ') S' | r => r) else M.ret (.nx ρ)) = _
  simp only [e]
theorem s_whl {st : Stmt} {mc : Env → M Bool} {mb : Env → M Fl} (n : Nat) (hps : PS X st (tWhile (tT X.K W mc) (tS X.K W mb))) : PS X st (tS X.K W fun ρ => whlM mc mb n ρ) := by
  refine PS.imp hps fun D σ H ⟨G, ρ, S, Hin, A, h⟩ => ?_
  refine ⟨fun m σ' H' => ∃ G' ρ' S', At X.K Hin G' H' σ' ρ' S' ∧ PostS X.K W Hin G' H' (whlM mc mb m ρ' S') D, ⟨n, G, ρ, S, A, h⟩, ?_⟩
  rintro m σ2 H2 ⟨G2, ρ2, S2, A2, h2⟩
  cases m with
  | zero => exact h2.elim
  | succ m =>
    rw [whlM_succ] at h2
    refine tS_try A2 h2 fun v d G3 H3 S3 x3 A3 r3 h3 => ?_
    cases r3
    cases v with
    | false => rw [if_neg (by simp)]; exact PostS.nx h3 A3
    | true =>
      rw [if_pos rfl]
      refine ⟨fun σ' H' => ∃ G' ρ' S', At X.K Hin G' H' σ' ρ' S' ∧ PostS X.K W Hin G' H' (whlM mc mb m ρ' S') D, fun σ' H' q => ⟨m, Nat.lt_succ_self m, q⟩, G3, ρ2, S3, Hin, A3, ?_⟩
      exact loop_post h3 fun ρ' S' _ σ4 G4 H4 _ A4 p4 => ⟨G4, ρ', S', A4, p4⟩

theorem RelE.ownPut {K : PySem.W.Frag} {Hin : Hp} {G : Gh} {H : Hp} {σ : L2.St} {ρ : Env} (E : RelE K Hin G H σ ρ) {i : Nat} {a : Addr} {xs ys : List V} {ds es : List D} (h1 : ρ[i]? = some (some (.own ds))) (h2 : σ[i]? = some (some (.ref a))) (h3 : H a = some (.lst xs)) (h4 : ¬ G.Z a) (h5 : a ∉ G.ids) (h6 : Hin a = none)
    (h7 : Rls K G (upd H a (.lst ys)) ys es) : RelE K Hin G (upd H a (.lst ys)) σ (ρ.set i (some (.own es))) where
  len := by rw [List.length_set]; exact E.len
  slot := fun j d h => by
    have hi : i < ρ.length := (List.getElem?_eq_some_iff.mp h1).1
    by_cases e : i = j
    · subst e
      rw [List.getElem?_set_self hi] at h
      cases h
      exact ⟨_, h2, .own upd_same h4 h5 h7, fun _ => ⟨a, rfl, h6⟩, fun _ => nofun⟩
    · rw [List.getElem?_set_ne e] at h
      obtain ⟨v, q1, q2, q3, q4⟩ := E.slot j d h
      refine ⟨v, q1, ?_, q3, q4⟩
      have ex : Ext noB G H G (upd H a (.lst ys)) := Ext.ownUpd h3 h4 rfl
      cases q2 with
      | base q => exact .base (q.ext ex)
      | own r1 r2 r3 r4 => exact .own (by rw [upd_ne (fun z => E.sep i j a _ _ e rfl rfl h1 h h2 (by rw [q1, z]))]; exact r1) r2 r3 (r4.ext ex)
      | bor _ _ _ _ => exact absurd rfl (q4 _)
      | okd r1 r2 r3 r4 r5 r6 => exact .okd (by rw [upd_ne (fun z => E.sep i j a _ _ e rfl rfl h1 h h2 (by rw [q1, z]))]; exact r1) r2 r3 r4 (r5.ext ex) (r6.ext ex)
      | lam r1 r2 r3 => exact .lam r1 (ex.fx _ _ fx_code r2) fun i d z => let ⟨v, t1, t2⟩ := r3 i d z; ⟨v, t1, t2.ext ex⟩
  sep := fun j k b zs ws hjk w1 w2 e1 e2 e3 => by
    have hi : i < ρ.length := (List.getElem?_eq_some_iff.mp h1).1
    have back : ∀ (l : Nat) z, z.isOw = true → (ρ.set i (some (.own es)))[l]? = some (some z) → ∃ z' : D, z'.isOw = true ∧ ρ[l]? = some (some z') := fun l z w h => by
      by_cases e : i = l
      · subst e; exact ⟨_, rfl, h1⟩
      · rw [List.getElem?_set_ne e] at h; exact ⟨_, w, h⟩
    obtain ⟨_, w1, e1⟩ := back j zs w1 e1
    obtain ⟨_, w2, e2⟩ := back k ws w2 e2
    exact E.sep j k b _ _ hjk w1 w2 e1 e2 e3
  hin := fun b hb => by
    by_cases e : b = a
    · rw [e, upd_same]; simp
    · rw [upd_ne e]; exact E.hin b hb
/-- what a slot's own list is -/
theorem At.own_ {K : PySem.W.Frag} {Hin : Hp} {G : Gh} {H : Hp} {σ : L2.St} {ρ : Env} {S : Store} (A : At K Hin G H σ ρ S) {i : Nat} {ds : List D} (h : ownAt ρ i = some ds) :
    ∃ a xs, σ[i]? = some (some (.ref a)) ∧ H a = some (.lst xs) ∧ ¬ G.Z a ∧ a ∉ G.ids ∧ Hin a = none ∧ Rls K G H xs ds := by
  obtain ⟨v, h1, h2, h3, h4⟩ := A.env.slot i _ (ownAt_some h)
  obtain ⟨a, rfl, ha⟩ := h3 rfl
  cases h2 with
  | base q => cases q
  | own q1 q2 q3 q4 => exact ⟨a, _, h1, q1, q2, q3, ha, q4⟩
theorem At.ownSet {K : PySem.W.Frag} {Hin : Hp} {G : Gh} {H : Hp} {σ : L2.St} {ρ : Env} {S : Store} (A : At K Hin G H σ ρ S) {i : Nat} {a : Addr} {xs ys : List V} {ds es : List D} (h1 : ownAt ρ i = some ds) (h2 : σ[i]? = some (some (.ref a))) (h3 : H a = some (.lst xs)) (h4 : ¬ G.Z a) (h5 : a ∉ G.ids) (h6 : Hin a = none)
    (h7 : Rls K G H ys es) : At K Hin G (upd H a (.lst ys)) σ (ρ.set i (some (.own es))) S :=
  ⟨A.env.ownPut (ownAt_some h1) h2 h3 h4 h5 h6 (h7.ext (Ext.ownUpd (B := noB) h3 h4 rfl)), A.st.ownUpd h3 h4 h5⟩
theorem s_app {st : Stmt} {i : Nat} {m : Env → M D} (hps : PS X st (tDrop (tBM X.K "list" rAppend (tVar i) (tCons (tM X.K W (r0 X.K) fun ρ => M.bnd (m ρ) handM) tNil)))) :
    PS X st (tS X.K W fun ρ => match WB.ownAt ρ i with
      | some xs => tryM (M.bnd (m ρ) handM) ρ fun v => if xs.length < sizeLine then M.ret (.nx (ρ.set i (some (.own (xs ++ [v]))))) else M.bad
      | none => M.bad) := by
  refine PS.imp hps fun D σ H ⟨G, ρ, S, Hin, A, h⟩ => ?_
  cases e : WB.ownAt ρ i with
  | none => simp only [e] at h; exact h.elim
  | some ds =>
    simp only [e] at h
    obtain ⟨a, xs, h1, h2, h3, h4, h5, h6⟩ := A.own_ e
    refine ⟨_, h1, .inl ⟨rfl, _, SqL.of h2⟩, ?_⟩
    refine tS_try A h fun v d G1 H1 S1 x1 A1 r1 q1 => ?_
    by_cases hz : ds.length < sizeLine
    · rw [if_pos hz] at q1
      obtain ⟨b, ys, g1, g2, g3, g4, g5, g6⟩ := A1.own_ e
      rw [h1] at g1
      cases g1
      have r1 : Rl0 X.K G1 H1 v d := r1
      refine ⟨a, ys, v, rfl, rfl, g2, by rw [g6.length]; exact hz, ?_⟩
      have A2 := A1.ownSet e h1 g2 g3 g4 g5 (g6.append (.cons r1 .nil))
      exact q1 σ G1 _ (Ext.ownUpd g2 g3 g5) A2
    · rw [if_neg hz] at q1
      exact q1.elim
theorem s_rev {st : Stmt} {i : Nat} (hps : PS X st (tDrop (tBM0 X.K "list" rReverse (tVar i)))) :
    PS X st (tS X.K W fun ρ => match WB.ownAt ρ i with | some xs => M.ret (.nx (ρ.set i (some (.own xs.reverse)))) | none => M.bad) := by
  refine PS.imp hps fun D σ H ⟨G, ρ, S, Hin, A, h⟩ => ?_
  cases e : WB.ownAt ρ i with
  | none => simp only [e] at h; exact h.elim
  | some ds =>
    simp only [e] at h
    obtain ⟨a, xs, h1, h2, h3, h4, h5, h6⟩ := A.own_ e
    refine ⟨_, h1, .inl ⟨rfl, _, SqL.of h2⟩, a, xs, rfl, rfl, h2, ?_⟩
    exact h σ G _ (Ext.ownUpd h2 h3 h5) (A.ownSet e h1 h2 h3 h4 h5 h6.reverse)
/-- a slot's list is changed no more: no step of the program -/
theorem frz_ok {K : PySem.W.Frag} {Hin : Hp} {G : Gh} {H : Hp} {σ : L2.St} {ρ : Env} {S : Store} {i : Nat} {ds : List D} (A : At K Hin G H σ ρ S) (e : WB.ownAt ρ i = some ds) : ∃ G', Ext Hin G H G' H ∧ At K Hin G' H σ (ρ.set i (some (.lst ds))) S := by
  obtain ⟨a, xs, h1, h2, h3, h4, h5, h6⟩ := A.own_ e
  have hi : i < ρ.length := (List.getElem?_eq_some_iff.mp (ownAt_some e)).1
  refine ⟨G.fz a, Ext.fz h5, ⟨?_, ?_, ?_, A.env.hin⟩, A.st.fz (by rw [h2]; simp) h4⟩
  · rw [List.length_set]; exact A.env.len
  · intro j d h
    by_cases ej : i = j
    · subst ej
      rw [List.getElem?_set_self hi] at h
      cases h
      exact ⟨_, h1, .base (.lst ⟨.inr rfl, h2⟩ (h6.ext (Ext.fz (B := noB) rfl))), nofun, fun _ => nofun⟩
    · rw [List.getElem?_set_ne ej] at h
      obtain ⟨v, q1, q2, q3, q4⟩ := A.env.slot j d h
      refine ⟨v, q1, ?_, q3, q4⟩
      cases q2 with
      | base q => exact .base (q.ext (Ext.fz (B := noB) rfl))
      | own r1 r2 r3 r4 => exact .own r1 (fun z => z.elim r2 fun z => A.env.sep i j a _ _ ej rfl rfl (ownAt_some e) h h1 (by rw [q1, z])) r3 (r4.ext (Ext.fz (B := noB) rfl))
      | bor _ _ _ _ => exact absurd rfl (q4 _)
      | okd r1 r2 r3 r4 r5 r6 => exact .okd r1 (fun z => z.elim r2 fun z => A.env.sep i j a _ _ ej rfl rfl (ownAt_some e) h h1 (by rw [q1, z])) r3 r4 (r5.ext (Ext.fz (B := noB) rfl)) (r6.ext (Ext.fz (B := noB) rfl))
      | lam r1 r2 r3 => exact .lam r1 r2 fun i d z => let ⟨v, t1, t2⟩ := r3 i d z; ⟨v, t1, t2.ext (Ext.fz (B := noB) rfl)⟩
  · intro j k b zs ws hjk w1 w2 e1 e2
    have back : ∀ (l : Nat) z, z.isOw = true → (ρ.set i (some (.lst ds)))[l]? = some (some z) → ρ[l]? = some (some z) := fun l z w h => by
      by_cases el : i = l
      · subst el
        rw [List.getElem?_set_self hi] at h
        cases h
        cases w
      · rw [List.getElem?_set_ne el] at h; exact h
    exact A.env.sep j k b zs ws hjk w1 w2 (back j zs w1 e1) (back k ws w2 e2)
theorem s_frz {sts : List Stmt} {i : Nat} {m2 : Env → M Fl} (h2 : PSs X sts (tS X.K W m2)) : PSs X sts (tS X.K W fun ρ => seqM (match WB.ownAt ρ i with | some xs => M.ret (.nx (ρ.set i (some (.lst xs)))) | none => M.bad) m2) := by
  refine PSs.imp h2 fun D σ H ⟨G, ρ, S, Hin, A, h⟩ => ?_
  cases e : WB.ownAt ρ i with
  | none => simp only [e] at h; exact h.elim
  | some ds =>
    simp only [e] at h
    have h : PostS X.K W Hin G H (m2 (ρ.set i (some (.lst ds))) S) D := h
    obtain ⟨G', x, A'⟩ := frz_ok A e
    exact ⟨G', _, S, Hin, A', PostS.from x h⟩

theorem lkK_val {K : PySem.W.Frag} {G : Gh} {H : Hp} {k : Key} {d : D} : ∀ {ks : List (Key × V)} {kvs : List (Key × D)}, Kvs K G H ks kvs → lkK k kvs = some d → ∃ v, valV ks k = some v ∧ Rl0 K G H v d
  | _, _, .nil, e => by cases e
  | _, _, .cons (a := (k1, v1)) (b := (k2, d2)) r t, e => by
    obtain ⟨e1, r1⟩ := r
    have e1 : k1 = k2 := e1
    subst e1
    by_cases hk : k1 = k
    · simp only [lkK, hk, if_true, Option.some.injEq] at e
      subst e
      exact ⟨v1, valV_pos hk, r1⟩
    · simp only [lkK, hk, if_false] at e
      obtain ⟨v, h1, h2⟩ := lkK_val t e
      exact ⟨v, by rw [valV_neg hk]; exact h1, h2⟩
theorem Kvs.keys {K : PySem.W.Frag} {G : Gh} {H : Hp} : ∀ {ks : List (Key × V)} {kvs : List (Key × D)}, Kvs K G H ks kvs → ks.map (·.1) = kvs.map (·.1)
  | _, _, .nil => rfl
  | _, _, .cons r t => by rw [List.map_cons, List.map_cons, r.1, Kvs.keys t]
theorem Kvs.length {K : PySem.W.Frag} {G : Gh} {H : Hp} {ks : List (Key × V)} {kvs : List (Key × D)} (h : Kvs K G H ks kvs) : ks.length = kvs.length := by
  have := congrArg List.length h.keys
  simpa using this
theorem putK_cons {k : Key} {v : V} {p : Key × V} {r : List (Key × V)} (nd : p.1 ∉ r.map (·.1)) : putK (p :: r) k v = if p.1 = k then (p.1, v) :: r else p :: putK r k v := by
  unfold putK
  by_cases h : p.1 = k
  · have ha : ((p :: r).any fun kv => decide (kv.1 = k)) = true := by simp [h]
    simp only [ha, if_true, h, List.map_cons]
    congr 1
    have same : ∀ q ∈ r, (if q.1 = k then (q.1, v) else q) = q := fun q hq => by
      rw [if_neg]
      intro e2
      exact nd (List.mem_map.mpr ⟨q, hq, by rw [e2, h]⟩)
    exact (List.map_congr_left same).trans (List.map_id _)
  · simp only [h, List.any_cons, decide_false, Bool.false_or, List.map_cons, if_false]
    split <;> simp
theorem Kvs.put {K : PySem.W.Frag} {G : Gh} {H : Hp} {k : Key} {v : V} {d : D} (rv : Rl0 K G H v d) {ks : List (Key × V)} {kvs : List (Key × D)} (nd : (ks.map (·.1)).Nodup) (h : Kvs K G H ks kvs) : Kvs K G H (putK ks k v) (ptK k d kvs) := by
  unfold Kvs at h ⊢
  induction h with
  | nil => exact .cons ⟨rfl, rv⟩ .nil
  | @cons p q ks kvs r t ih =>
    obtain ⟨k1, v1⟩ := p
    obtain ⟨k2, d2⟩ := q
    obtain ⟨e1, r1⟩ := r
    have e1 : k1 = k2 := e1
    subst e1
    rw [List.map_cons, List.nodup_cons] at nd
    rw [putK_cons nd.1]
    by_cases hk : k1 = k
    · simp only [ptK, hk, if_true]
      exact .cons ⟨rfl, rv⟩ t
    · simp only [ptK, hk, if_false]
      exact .cons ⟨rfl, r1⟩ (ih nd.2)
theorem ptK_keys {k : Key} {d : D} : ∀ {kvs : List (Key × D)} {j : Key}, j ∈ (ptK k d kvs).map (·.1) → j = k ∨ j ∈ kvs.map (·.1)
  | [], j, h => by simp [ptK] at h; exact .inl h
  | (j1, d1) :: r, j, h => by
    by_cases hk : j1 = k
    · simp only [ptK, hk, if_true, List.map_cons, List.mem_cons] at h ⊢
      exact h.elim .inl fun z => .inr (.inr z)
    · simp only [ptK, hk, if_false, List.map_cons, List.mem_cons] at h ⊢
      rcases h with h | h
      · exact .inr (.inl h)
      · rcases ptK_keys h with h | h
        · exact .inl h
        · exact .inr (.inr h)
theorem ptK_nodup {k : Key} {d : D} : ∀ {kvs : List (Key × D)}, (kvs.map (·.1)).Nodup → ((ptK k d kvs).map (·.1)).Nodup
  | [], _ => by simp [ptK]
  | (j1, d1) :: r, h => by
    rw [List.map_cons, List.nodup_cons] at h
    by_cases hk : j1 = k
    · simp only [ptK, hk, if_true, List.map_cons]
      rw [List.nodup_cons]
      exact ⟨by rw [← hk]; exact h.1, h.2⟩
    · simp only [ptK, hk, if_false, List.map_cons]
      rw [List.nodup_cons]
      exact ⟨fun z => (ptK_keys z).elim hk h.1, ptK_nodup h.2⟩
/-- a thing of the store is changed -/
theorem Ext.idUpd {K : PySem.W.Frag} {B : Hp} {G : Gh} {H : Hp} {S : Store} (R : RelS K G H S) {a : Addr} {o : HO} (ha : a ∈ G.ids) : Ext B G H G (upd H a o) where
  keep := fun b u _ e n _ => by rw [upd_ne (fun z => n (by rw [z]; exact ha))]; exact e
  tups := fun b xs e => by
    obtain ⟨u, h1, h2⟩ := R.it a ha
    rw [upd_ne (ne_of e h1 (by intro z; rw [← z] at h2; exact h2))]; exact e
  frzs := fun b o' u e => by
    obtain ⟨u', h1, h2⟩ := R.it a ha
    rw [upd_ne (ne_of e h1 (by intro z; rw [← z] at h2; exact h2))]; exact e
  zk := fun b z => upd_ne (fun e => R.zi b z (by rw [e]; exact ha))
  zm := fun _ z => z
  zn := fun _ z => .inl z
  pre := fun _ _ e => e
  idn := fun _ e => .inl e
  trk := fun b n => by
    by_cases e : b = a
    · rw [e, upd_same]; simp
    · rw [upd_ne e]; exact n
  fx := fun b u f e => by
    rcases R.idObj ha with ⟨xs, q⟩ | ⟨xs, q⟩ <;> exact upd_fx q (fun z => z) f e
  tt := rfl
theorem RelS.idUpd {K : PySem.W.Frag} {G : Gh} {H : Hp} {S : Store} (R : RelS K G H S) {n : Nat} {a : Addr} {o : HO} {mo : MO} (hn : G.ids[n]? = some a) (hm : Mut (some o)) (ho : ObjR K G (upd H a o) a mo) : RelS K G (upd H a o) (S.set n mo) where
  zt := fun b z => (Ext.idUpd (B := noB) R (List.mem_of_getElem? hn)).trk b (R.zt b z)
  zi := R.zi
  nd := R.nd
  it := fun b hb => by
    by_cases e : b = a
    · exact ⟨o, by rw [e, upd_same], hm⟩
    · rw [upd_ne e]; exact R.it b hb
  len := by rw [List.length_set]; exact R.len
  obj := fun m b u e1 e2 => by
    by_cases e : n = m
    · subst e
      rw [hn] at e1
      cases e1
      have hl : n < S.length := by rw [← R.len]; exact (List.getElem?_eq_some_iff.mp hn).1
      rw [List.getElem?_set_self hl] at e2
      cases e2
      exact ho
    · rw [List.getElem?_set_ne e] at e2
      have hb : b ≠ a := fun z => e ((List.getElem?_inj (List.getElem?_eq_some_iff.mp hn).1 R.nd).mp (by rw [hn, e1, z]))
      exact (R.obj m b u e1 e2).ext (Ext.idUpd (B := noB) R (List.mem_of_getElem? hn)) (upd_ne hb)
  tabs := tabs_keep R.tabs fun b u e f => by
    rcases R.idObj (List.mem_of_getElem? hn) with ⟨xs, q⟩ | ⟨xs, q⟩ <;> exact upd_tab q (fun z => z) (fun _ => nofun) e f
/-- a new thing of the store -/
theorem idNew {K : PySem.W.Frag} {G : Gh} {H : Hp} {S : Store} (R : RelS K G H S) {p : Addr} {o : HO} {mo : MO} (hp : H p = none) (hm : Mut (some o)) (ho : ∀ G', Ext H G H G' (upd H p o) → ObjR K G' (upd H p o) p mo) :
    ∃ G', Ext H G H G' (upd H p o) ∧ RelS K G' (upd H p o) (S ++ [mo]) ∧ G'.ids[S.length]? = some p := by
  have hpi : p ∉ G.ids := fun z => by
    obtain ⟨u, e, _⟩ := R.it p z
    rw [hp] at e
    cases e
  have e0 := Ext.new (o := o) R hp
  have ex : Ext H G H { G with ids := G.ids ++ [p] } (upd H p o) := by
    refine ⟨e0.keep, e0.tups, e0.frzs, e0.zk, e0.zm, e0.zn, fun n a e => ?_, fun a ha => ?_, e0.trk, e0.fx, rfl⟩
    · show (G.ids ++ [p])[n]? = some a
      rw [List.getElem?_append_left (List.getElem?_eq_some_iff.mp e).1]
      exact e
    · rcases List.mem_append.mp ha with h | h
      · exact .inl h
      · rw [List.mem_singleton.mp h]; exact .inr hp
  have R0 := R.new (o := o) hp
  refine ⟨{ G with ids := G.ids ++ [p] }, ex, ⟨R0.zt, fun a z ha => ?_, ?_, fun a ha => ?_, ?_, fun n a u e1 e2 => ?_, R0.tabs⟩, ?_⟩
  · rcases List.mem_append.mp ha with h | h
    · exact R.zi a z h
    · rw [List.mem_singleton.mp h] at z
      exact R.zt p z hp
  · exact List.nodup_append.mpr ⟨R.nd, by simp, fun a ha b hb => by rw [List.mem_singleton.mp hb]; exact fun z => hpi (by rw [← z]; exact ha)⟩
  · rcases List.mem_append.mp ha with h | h
    · exact R0.it a h
    · rw [List.mem_singleton.mp h]; exact ⟨o, upd_same, hm⟩
  · simp [R.len]
  · have e1 : (G.ids ++ [p])[n]? = some a := e1
    by_cases hl : n < G.ids.length
    · rw [List.getElem?_append_left hl] at e1
      rw [List.getElem?_append_left (by rw [← R.len]; exact hl)] at e2
      have hb : a ≠ p := fun z => hpi (by rw [← z]; exact List.mem_of_getElem? e1)
      exact (R.obj n a u e1 e2).ext ex (upd_ne hb)
    · have hn : n = G.ids.length := by
        have := (List.getElem?_eq_some_iff.mp e1).1
        simp at this
        omega
      subst hn
      rw [List.getElem?_append_right (Nat.le_refl _)] at e1
      rw [R.len, List.getElem?_append_right (Nat.le_refl _)] at e2
      simp at e1 e2
      subst e1 e2
      exact ho _ ex
  · show (G.ids ++ [p])[S.length]? = some p
    rw [← R.len, List.getElem?_append_right (Nat.le_refl _)]
    simp
theorem keyOf_V {K : PySem.W.Frag} {G : Gh} {H : Hp} {v : V} {d : D} {k : Key} (r : Rl K G H v d) (e : keyOf d = some k) : v = kV k := by
  cases d <;> simp only [keyOf, Option.some.injEq, reduceCtorEq] at e
  · subst e; rw [r.toInt] <;> rfl
  · subst e; rw [r.toStr] <;> rfl
theorem Rl.toRef {K : PySem.W.Frag} {G : Gh} {H : Hp} {v : V} {n : Nat} (r : Rl K G H v (.ref n)) : ∃ a, v = .ref a ∧ G.ids[n]? = some a := by
  cases r with
  | base r => cases r with | ref h => exact ⟨_, rfl, h⟩
theorem dgetM_ok {x y d : D} {S S' : Store} (h : dgetM x y S = .ok d S') : ∃ n k kvs, x = .ref n ∧ keyOf y = some k ∧ S[n]? = some (.dk kvs) ∧ lkK k kvs = some d ∧ S' = S := by
  unfold dgetM at h
  split at h
  · rename_i n k e1
    split at h
    · rename_i kvs e2
      split at h
      · rename_i d' e3
        cases h
        exact ⟨n, k, kvs, rfl, e1, e2, e3, rfl⟩
      · cases h
    · cases h
  · cases h
theorem dgetM_cases (x y : D) (S : Store) : dgetM x y S = .bad ∨ ∃ d S', dgetM x y S = .ok d S' := by
  unfold dgetM
  repeat (first | exact .inl rfl | exact .inr ⟨_, _, rfl⟩ | split)
theorem s_dget {o i : Expr} {pos : Pos} {m1 m2 : Env → M D} (hu : X.A.units + 1 < cLine) (hs : NoSl i) (ho : PE X o (tE X.K W m1)) (hi : PE X i (tE X.K W m2)) : PE X (.Subscript o i pos) (tE X.K W fun ρ => M.bnd (m1 ρ) fun x => M.bnd (m2 ρ) fun y => dgetM x y) := by
  refine PE.imp (pe_dget hu ho hi hs) fun σ H Q ⟨G, ρ, S, Hin, A, h⟩ => ?_
  refine tM_bnd rVal.mono A h fun v d G1 H1 S1 x1 A1 r1 h1 => ?_
  refine tM_bnd rVal.mono A1 h1 fun u e G2 H2 S2 x2 A2 r2 h2 => ?_
  rcases dgetM_cases d e S2 with q | ⟨z, S3, q⟩
  · rw [q] at h2; exact h2.elim
  · rw [q] at h2
    obtain ⟨n, k, kvs, rfl, e1, e2, e3, rfl⟩ := dgetM_ok q
    obtain ⟨a, rfl, ha⟩ := (r1.1.ext x2).toRef
    obtain ⟨ks, g1, g2, _⟩ := A2.st.obj n a _ ha e2
    obtain ⟨w, g3, g4⟩ := lkK_val g2 e3
    refine ⟨a, w, rfl, ?_, h2 w G2 H2 (Ext.refl _ _ _) (RlF.base g4) A2.st⟩
    rw [keyOf_V r2.1 e1, ← g3]
    exact DGet.k g1
theorem s_lget {o i : Expr} {pos : Pos} {m1 m2 : Env → M D} (hs : PlainIx i) (ho : PE X o (tE X.K W m1)) (hi : PE X i (tE X.K W m2)) : PE X (.Subscript o i pos) (tE X.K W fun ρ => M.bnd (m1 ρ) fun x => M.bnd (m2 ρ) fun y => lgetM x y) := by
  refine PE.imp (pe_ix ix_list ho hi hs) fun σ H Q ⟨G, ρ, S, Hin, A, h⟩ => ?_
  refine tM_bnd rVal.mono A h fun v d G1 H1 S1 x1 A1 r1 h1 => ?_
  refine tM_bnd rVal.mono A1 h1 fun u e G2 H2 S2 x2 A2 r2 h2 => ?_
  have r1 := r1.1.ext x2
  have r2 := r2.1
  cases d with
  | ref n =>
    cases e with
    | int j =>
      cases q : S2[n]? with
      | none => simp only [lgetM, q] at h2; exact h2.elim
      | some mo =>
        cases mo with
        | dk _ => simp only [lgetM, q] at h2; exact h2.elim
        | ins _ _ => simp only [lgetM, q] at h2; exact h2.elim
        | lst xs =>
          cases q2 : L2.atI xs j with
          | none => simp only [lgetM, q, q2] at h2; exact h2.elim
          | some z =>
            simp only [lgetM, q, q2] at h2
            obtain ⟨a, rfl, ha⟩ := r1.toRef
            obtain ⟨ys, g1, g2⟩ := A2.st.obj n a _ ha q
            obtain ⟨w, g3, g4⟩ := g2.atI q2
            exact ⟨a, ys, j, w, rfl, r2.toInt, SqL.of g1, g3, h2 w G2 H2 (Ext.refl _ _ _) (RlF.base g4) A2.st⟩
    | _ => exact h2.elim
  | _ => exact h2.elim
theorem putM_cases (o k v : D) (S : Store) : putM o k v S = .bad ∨ ∃ u S', putM o k v S = .ok u S' := by
  unfold putM
  repeat (first | exact .inl rfl | exact .inr ⟨_, _, rfl⟩ | split)
theorem putM_ok {o k v : D} {S S' : Store} {u : Unit} (h : putM o k v S = .ok u S') : ∃ n v', o = .ref n ∧ v.hand = some v' ∧ ((∃ kvs key, S[n]? = some (.dk kvs) ∧ keyOf k = some key ∧ kvs.length < sizeLine ∧ S' = S.set n (.dk (ptK key v' kvs))) ∨ ∃ xs i j, S[n]? = some (.lst xs) ∧ k = .int i ∧ L2.ixN xs.length i = some j ∧ S' = S.set n (.lst (xs.set j v'))) := by
  unfold putM at h
  split at h
  · rename_i n v' e1
    split at h
    · rename_i kvs e2
      split at h
      · rename_i key e3
        split at h
        · rename_i hz
          cases h
          exact ⟨n, v', rfl, e1, .inl ⟨kvs, key, e2, e3, hz, rfl⟩⟩
        · cases h
      · cases h
    · rename_i xs e2
      split at h
      · rename_i i
        split at h
        · rename_i j e3
          cases h
          exact ⟨n, v', rfl, e1, .inr ⟨xs, i, j, e2, rfl, e3, rfl⟩⟩
        · cases h
      · cases h
    · cases h
  · cases h
def rPut (K : PySem.W.Frag) : TSet := fun o i v H Q => ∃ G S do_ dk dv u S', Rl K G H o do_ ∧ Rl K G H i dk ∧ Rl0 K G H v dv ∧ RelS K G H S ∧ putM do_ dk dv S = .ok u S' ∧ ∀ H', Ext H G H G H' → RelS K G H' S' → Q H'
theorem hand0 {K : PySem.W.Frag} {G : Gh} {H : Hp} {v : V} {d d' : D} (r : Rl0 K G H v d) (e : d.hand = some d') : d' = d := by
  cases r <;> simp only [D.hand, Option.some.injEq] at e <;> exact e.symm
theorem p_put (hu : X.A.units + 1 < cLine) : PSet X (rPut X.K) := by
  intro pins s σ H o i v ov iv u Q I ro ri rv ⟨G, S, d0, d1, d2, uu, S', q0, q1, q2, R, hp, k⟩
  obtain ⟨n, v', e0, e1, h⟩ := putM_ok hp
  subst e0
  have := hand0 q2 e1
  subst this
  obtain ⟨a, rfl, ha⟩ := q0.toRef
  obtain rfl : ov = Value.ref a := ro
  have hm := List.mem_of_getElem? ha
  rcases h with ⟨kvs, key, e2, e3, hz, rfl⟩ | ⟨xs, j, jj, e2, e3, e4, rfl⟩
  · obtain ⟨ks, g1, g2, g3⟩ := R.obj n a _ ha e2
    have hk := keyOf_V q1 e3
    subst hk
    refine d_setItem hu I (DPut.k g1 (by rw [g2.length]; exact hz)) ri rv fun s' I' => ⟨_, I', k _ (Ext.idUpd R hm) (R.idUpd ha trivial ?_)⟩
    have ex : Ext noB G H G (upd H a (.dK (putK ks key v))) := Ext.idUpd R hm
    exact ⟨_, upd_same, (Kvs.put q2 (by rw [g2.keys]; exact g3) g2).ext ex, ptK_nodup g3⟩
  · subst e3
    obtain ⟨ys, g1, g2⟩ := R.obj n a _ ha e2
    have hi := q1.toInt
    subst hi
    refine set_list pins s σ H (.ref a) _ v _ iv u Q I rfl ri rv ⟨a, ys, j, jj, rfl, rfl, g1, by rw [g2.length]; exact e4, ?_⟩
    refine k _ (Ext.idUpd R hm) (R.idUpd ha trivial ?_)
    have ex : Ext noB G H G (upd H a (.lst (ys.set jj v))) := Ext.idUpd R hm
    exact ⟨_, upd_same, (g2.set q2 jj).ext ex⟩
theorem s_setK {st : Stmt} {mo mk mv : Env → M D} (hps : PS X st (tAsg (tM X.K W (r0 X.K) fun ρ => M.bnd (mv ρ) handM) (gSub (tE X.K W mo) (tE X.K W mk) (rPut X.K)))) :
    PS X st (tS X.K W fun ρ => tryM (M.bnd (mv ρ) handM) ρ fun v => tryM (mo ρ) ρ fun x => tryM (mk ρ) ρ fun y => tryM (putM x y v) ρ fun _ => M.ret (.nx ρ)) := by
  refine PS.imp hps fun D σ H ⟨G, ρ, S, Hin, A, h⟩ => ?_
  refine tS_try A h fun v dv G1 H1 S1 x1 A1 r1 h1 => ?_
  refine tS_try A1 h1 fun o do_ G2 H2 S2 x2 A2 r2 h2 => ?_
  refine tS_try A2 h2 fun i di G3 H3 S3 x3 A3 r3 h3 => ?_
  have r1 : Rl0 X.K G1 H1 v dv := r1
  rcases putM_cases do_ di dv S3 with q | ⟨u, S4, q⟩
  · simp only [tryM, q] at h3; exact h3.elim
  · simp only [tryM, q] at h3
    refine ⟨G3, S3, do_, di, dv, u, S4, r2.1.ext x3, r3.1, (r1.ext x2).ext x3, A3.st, q, fun H' x R' => ?_⟩
    exact h3 σ G3 H' (x.weak A3.env.hin) ⟨A3.env.ext x, R'⟩
end
end WB
namespace WB
open PySem L2

theorem lexLt_irrefl : ∀ a : List Int, HT.lexLt a a = false
  | [] => rfl
  | x :: a => by rw [HT.lexLt_cons, if_pos rfl]; exact lexLt_irrefl a
theorem lexLt_trans : ∀ {a b c : List Int}, HT.lexLt a b = true → HT.lexLt b c = true → HT.lexLt a c = true
  | [], [], _, h, _ => by cases h
  | [], _ :: _, [], _, h => by cases h
  | [], _ :: _, _ :: _, _, _ => rfl
  | _ :: _, [], _, h, _ => by cases h
  | _ :: _, _ :: _, [], _, h => by cases h
  | x :: a, y :: b, z :: c, h1, h2 => by
    rw [HT.lexLt_cons] at h1 h2 ⊢
    by_cases e1 : x = y
    · subst e1
      rw [if_pos rfl] at h1
      by_cases e2 : x = z
      · subst e2
        rw [if_pos rfl] at h2 ⊢
        exact lexLt_trans h1 h2
      · rw [if_neg e2] at h2 ⊢
        exact h2
    · rw [if_neg e1] at h1
      by_cases e2 : y = z
      · subst e2
        rw [if_neg e1]
        exact h1
      · rw [if_neg e2] at h2
        simp only [decide_eq_true_eq] at h1 h2
        rw [if_neg (by omega)]
        simp only [decide_eq_true_eq]
        omega
theorem lexLt_total : ∀ {a b : List Int}, a ≠ b → HT.lexLt a b = false → HT.lexLt b a = true
  | [], [], h, _ => absurd rfl h
  | [], _ :: _, _, h => by cases h
  | _ :: _, [], _, _ => rfl
  | x :: a, y :: b, h, h1 => by
    rw [HT.lexLt_cons] at h1 ⊢
    by_cases e : x = y
    · subst e
      rw [if_pos rfl] at h1 ⊢
      exact lexLt_total (fun z => h (by rw [z])) h1
    · rw [if_neg e] at h1
      rw [if_neg (fun z => e z.symm)]
      simp only [decide_eq_false_iff_not, decide_eq_true_eq] at h1 ⊢
      omega
theorem code_lex : ∀ {B : Int} {a b : List Int}, a.length = b.length → TS.Bd B a → TS.Bd B b → TS.code B a ≤ TS.code B b → a ≠ b → HT.lexLt a b = true
  | _, [], [], _, _, _, _, h => absurd rfl h
  | _, [], _ :: _, h, _, _, _, _ => by simp at h
  | _, _ :: _, [], h, _, _, _, _ => by simp at h
  | B, x :: a, y :: b, hl, ha, hb, hc, hn => by
    have hl' : a.length = b.length := by simpa using hl
    rw [HT.lexLt_cons]
    by_cases e : x = y
    · subst e
      rw [if_pos rfl]
      refine code_lex hl' ha.tail hb.tail ?_ (fun z => hn (by rw [z]))
      have q := (TS.code_same (B := B) (d := x) (r := b) (q := a) hl'.symm)
      by_cases g : TS.code B b < TS.code B a
      · exact absurd (q.mpr g) (Int.not_lt.mpr hc)
      · exact Int.not_lt.mp g
    · rw [if_neg e]
      simp only [decide_eq_true_eq]
      by_cases g : y < x
      · exact absurd (TS.code_lt (B := B) hl'.symm hb.tail ha.tail g) (Int.not_lt.mpr hc)
      · omega
abbrev Rise (l : List (List Int)) : Prop := l.Pairwise fun a b => HT.lexLt a b = true
theorem wordIns_mem {w v : List Int} : ∀ {l : List (List Int)}, v ∈ wordIns w l ↔ v = w ∨ v ∈ l
  | [] => by simp [wordIns]
  | u :: l => by
    unfold wordIns
    by_cases e : w = u
    · rw [if_pos e]; subst e; simp
    · rw [if_neg e]
      by_cases h : wordLt w u = true
      · rw [if_pos h]; simp
      · rw [if_neg h, List.mem_cons, wordIns_mem, List.mem_cons]
        constructor
        · rintro (h | h | h)
          · exact .inr (.inl h)
          · exact .inl h
          · exact .inr (.inr h)
        · rintro (h | h | h)
          · exact .inr (.inl h)
          · exact .inl h
          · exact .inr (.inr h)
theorem wordIns_rise {w : List Int} : ∀ {l : List (List Int)}, Rise l → Rise (wordIns w l)
  | [], _ => by simp [wordIns, Rise]
  | u :: l, h => by
    rw [Rise, List.pairwise_cons] at h
    unfold wordIns
    by_cases e : w = u
    · rw [if_pos e, Rise, List.pairwise_cons]; exact h
    · rw [if_neg e]
      by_cases hl : wordLt w u = true
      · rw [if_pos hl, Rise, List.pairwise_cons]
        refine ⟨fun v hv => ?_, by rw [List.pairwise_cons]; exact h⟩
        rcases List.mem_cons.mp hv with hv | hv
        · rw [hv]; exact hl
        · exact lexLt_trans hl (h.1 v hv)
      · rw [if_neg hl, Rise, List.pairwise_cons]
        refine ⟨fun v hv => ?_, wordIns_rise h.2⟩
        rcases wordIns_mem.mp hv with hv | hv
        · rw [hv]; exact lexLt_total e (by simpa [wordLt] using hl)
        · exact h.1 v hv
theorem wordSort_rise (ws : List (List Int)) : Rise (wordSort ws) := by
  unfold wordSort
  induction ws with
  | nil => exact List.Pairwise.nil
  | cons w ws ih => exact wordIns_rise ih
theorem wordSort_mem {v : List Int} {ws : List (List Int)} : v ∈ wordSort ws ↔ v ∈ ws := by
  unfold wordSort
  induction ws with
  | nil => simp
  | cons w ws ih => rw [List.foldr_cons, wordIns_mem, ih, List.mem_cons]
theorem Rise.unique : ∀ {l m : List (List Int)}, Rise l → Rise m → (∀ v, v ∈ l ↔ v ∈ m) → l = m
  | [], [], _, _, _ => rfl
  | [], b :: m, _, _, h => by have := (h b).mpr (by simp); simp at this
  | a :: l, [], _, _, h => by have := (h a).mp (by simp); simp at this
  | a :: l, b :: m, h1, h2, h => by
    rw [Rise, List.pairwise_cons] at h1 h2
    have ab : a = b := by
      have q1 := (h a).mp (by simp)
      have q2 := (h b).mpr (by simp)
      rcases List.mem_cons.mp q1 with z | z
      · exact z
      · rcases List.mem_cons.mp q2 with y | y
        · exact y.symm
        · have t := lexLt_trans (h2.1 a z) (h1.1 b y)
          rw [lexLt_irrefl] at t
          cases t
    subst ab
    congr 1
    refine Rise.unique h1.2 h2.2 fun v => ⟨fun hv => ?_, fun hv => ?_⟩
    · rcases List.mem_cons.mp ((h v).mp (by simp [hv])) with z | z
      · subst z
        have t := h1.1 v hv
        rw [lexLt_irrefl] at t
        cases t
      · exact z
    · rcases List.mem_cons.mp ((h v).mpr (by simp [hv])) with z | z
      · subst z
        have t := h2.1 v hv
        rw [lexLt_irrefl] at t
        cases t
      · exact z

section
open PyProof.Rows
variable {P : Program} {w : World} {A : Around} {E : Value → Shared → Prop} {s : Shared}
theorem sort_few {a : Addr} {vs : List Value} {n : Nat} {Q : Value → Shared → Prop} (ho : s.heap.get? a = some (seqObj "list" vs.toArray n)) (hl : vs.length ≤ 1) (h : Q .none { s with heap := sortedHeap s.heap a vs vs.toArray }) :
    wpAny (model P w) A (call (.builtin "list.sort") [.ref a]) Q E s := by
  refine wpAny_call_entry slot_list_sort ⟨_, ho, rfl⟩ entry_list_sort (SK.plain_sort (r := fun _ => 0) ho (by omega) (fun h2 => absurd h2 (by omega)) fun ps out h1 h2 _ => ⟨_, rfl, ?_⟩) (args_list_sort _)
  have e : out = vs.toArray := by
    have pm : out.toList.Perm vs := by
      rw [h1]
      have z := h2.map Prod.snd
      rw [List.map_snd_zip (Nat.le_refl _)] at z
      exact z
    have eq : out.toList = vs := by
      match vs, hl, pm with
      | [], _, pm => exact pm.eq_nil
      | [x], _, pm => exact List.perm_singleton.mp pm
    rw [← eq]
  rw [e]
  exact h
theorem sorted_set1 {a : Addr} {L : List (Addr × List Int)} {es : Array (Int × Value)} {ep : Nat} {t : SetTable} {Q : Value → Shared → Prop} (R : SetTR P w s.heap a L es ep t) (hh : A.handled = none) (h1 : L.length ≤ 1)
    (hQ : ∀ s' p (c : Nat), (∀ b o, s.heap.get? b = some o → s'.heap.get? b = some o) → s'.gens = s.gens → s'.os = s.os → s.heap.objs.size ≤ p → s'.heap.get? p = some (seqObj "list" (L.map fun q => Value.ref q.1).toArray c) → Q (.ref p) s') :
    wpAny (model P w) A (call (.builtin "sorted") [.ref a]) Q E s := by
  obtain ⟨o, ho, hex, hd⟩ := R.ob
  have hsz := R.size
  refine Calls.call_function_entry kind_sorted plain_sorted entry_sorted (args_sorted1 _) ?_
  unfold Builtin.«sorted»
  refine wpAny_bind (m := checkCount "sorted" 1 1 _) (wpAny_pure ?_)
  refine wpAny_bind (collect_set (A := A.in1) hh ⟨o, ho, hex.1, hd⟩ R.fits (by unfold scanBound; omega) R.tab.ris R.led fun s1 vs k1 hz g1 o1 pm => ?_)
  have hes : es.toList.map (·.2) = L.map fun q => Value.ref q.1 := by
    rw [R.rows]
    unfold rowsOf
    rw [List.map_map] <;> rfl
  rw [hes] at pm
  have ev : vs = L.map fun q => Value.ref q.1 := by
    match L, h1, pm with
    | [], _, pm => exact pm.eq_nil
    | [x], _, pm => exact List.perm_singleton.mp pm
  subst ev
  refine wpAny_bind (wpAny_newList ?_ (by rw [List.length_map, sizeLine_eq]; omega))
  have at1 : (s1.heap.push (seqObj "list" (L.map fun q => Value.ref q.1).toArray 0)).get? s1.heap.objs.size = some (seqObj "list" (L.map fun q => Value.ref q.1).toArray 0) := Heap.get?_push_size _ rfl
  refine wpAny_bind (wpAny_holding (sort_few (s := { s1 with heap := s1.heap.push (seqObj "list" (L.map fun q => Value.ref q.1).toArray 0) }) at1 (by simpa using h1) ?_))
  obtain ⟨c, hc⟩ := sortedHeap_at (vs := L.map fun q => Value.ref q.1) (out := (L.map fun q => Value.ref q.1).toArray) at1
  refine wpAny_pure ⟨_, rfl, hQ _ s1.heap.objs.size c (fun b u e => ?_) g1 o1 hz hc⟩
  have lt := Heap.lt_size (k1 b u e)
  show (sortedHeap (s1.heap.push (seqObj "list" (L.map fun q => Value.ref q.1).toArray 0)) s1.heap.objs.size _ _).get? b = some u
  rw [sortedHeap_old (Nat.ne_of_lt lt) (by rw [size_push']; exact Nat.lt_succ_of_lt lt)]
  exact Heap.get?_push_of_some _ (k1 b u e)
end
section
variable {X : Cx} {W : WX}
def rSorted1 (K : PySem.W.Frag) (P : Program) (w : World) : List V → Hp → VK → Prop := fun vs H Q => ∃ (a : Addr) (L : List (Addr × List Int)), vs = [V.ref a] ∧ H a = some (SetTO P w a L) ∧ (∀ p ∈ L, SqT K H p.1 (p.2.map V.int)) ∧ (∀ p ∈ L, p.2 = []) ∧
  ((L.map (·.2)).Nodup → ∀ p, H p = none → Q (.ref p) (upd H p (.lst (L.map fun q => V.ref q.1))))
theorem cr_sorted1 (hc : X.calm = true) : CallR X (.builtin "sorted") (rSorted1 X.K X.prog X.w) := by
  intro pins s σ H vs us Q I r ⟨a, L, e, ha, hk, h1, q⟩
  subst e
  have R0 : SetT0 X.prog X.w s.heap a L := (I.hok a _ ha).1
  obtain ⟨es, ep, t, R⟩ := R0.full fun p hp => I.isT (hk p hp)
  rw [Vals.ref1 r]
  have few : L.length ≤ 1 := by
    have nd := R.nd
    match L, h1, nd with
    | [], _, _ => simp
    | [_], _, _ => simp
    | a :: b :: r, h1, nd =>
      rw [List.map_cons, List.map_cons, List.nodup_cons] at nd
      exact absurd (by rw [h1 a (by simp), h1 b (by simp)]; simp) nd.1
  refine sorted_set1 R (I.ok.hd hc) few fun s' p c k g o hp hg => ?_
  have hn : H p = none := I.hok.fresh hp
  have J : Inv X pins σ (upd H p (.lst (L.map fun q => V.ref q.1))) { s with heap := s'.heap, gens := s'.gens, drawn := s'.drawn, toks := s'.toks } :=
    I.call (ch := []) (Un.laid k hp hn) (I.hok.laid k hp ⟨by rw [List.length_map, sizeLine_eq]; omega, _, c, vals_of_refs L, hg⟩) (by rw [g]; exact I.bare) (fun _ z => nomatch z)
  have es' : s' = { s with heap := s'.heap, gens := s'.gens, drawn := s'.drawn, toks := s'.toks } := by
    cases s'; cases s; cases o; rfl
  rw [es']
  exact ⟨.ref p, _, J, rfl, q R.nd p hn⟩
theorem words_ks {K : PySem.W.Frag} {G : Gh} {H : Hp} : ∀ {vs : List V} {ds : List D} {ws : List (List Int)}, Rls K G H vs ds → D.words? ds = some ws → ∃ ks : List (Addr × List Int), vs = (ks.map fun p => V.ref p.1) ∧ ks.map (·.2) = ws ∧ ∀ p ∈ ks, SqT K H p.1 (p.2.map V.int)
  | _, _, _, .nil, e => by simp only [D.words?, Option.some.injEq] at e; subst e; exact ⟨[], rfl, rfl, fun _ h => nomatch h⟩
  | _, _, ws, .cons (d := d) (ds := ds) h r, e => by
    cases h with
    | @tup a xs es h1 h2 =>
      simp only [D.words?] at e
      cases e1 : D.ints? es with
      | none => simp [e1] at e
      | some w =>
        cases e2 : D.words? ds with
        | none => simp [e1, e2] at e
        | some ws' =>
          simp only [e1, e2, Option.some.injEq] at e
          subst e
          obtain ⟨ks, q1, q2, q3⟩ := words_ks r e2
          refine ⟨(a, w) :: ks, by rw [q1] <;> rfl, by rw [← q2] <;> rfl, fun p hp => ?_⟩
          rcases List.mem_cons.mp hp with z | z
          · rw [z, ← h2.ints e1]; exact h1
          · exact q3 p z
    | _ => simp [D.words?] at e
theorem words_rl {K : PySem.W.Frag} {G : Gh} {H : Hp} : ∀ (ks : List (Addr × List Int)), (∀ p ∈ ks, SqT K H p.1 (p.2.map V.int)) → Rls K G H (ks.map fun p => V.ref p.1) ((ks.map (·.2)).map wordTup)
  | [], _ => .nil
  | p :: ks, h => by
    have iw : ∀ w : List Int, Rls K G H (w.map V.int) (w.map D.int) := fun w => by
      induction w with
      | nil => exact .nil
      | cons i w ih => exact .cons (.int i) ih
    exact .cons (.tup (h p (by simp)) (iw p.2)) (words_rl ks fun q hq => h q (by simp [hq]))
theorem wordOk_iff {d : Nat} {w : List Int} (h : wordOk d w = true) : w.length = d ∧ TS.Bd 4 w := by
  unfold wordOk at h
  simp only [Bool.and_eq_true, beq_iff_eq, List.all_eq_true, decide_eq_true_eq] at h
  exact ⟨h.1, h.2⟩
theorem sortedSetD_ok {xs ys : List D} (h : sortedSetD xs = some ys) : ∃ ws d, D.words? xs = some ws ∧ ws.length < 64 ∧ (∀ w ∈ ws, w.length = d ∧ TS.Bd 4 w) ∧ ys = (wordSort ws).map wordTup := by
  unfold sortedSetD at h
  cases e : D.words? xs with
  | none => rw [e] at h; cases h
  | some ws =>
    rw [e] at h
    cases ws with
    | nil =>
      have h : some ((wordSort []).map wordTup) = some ys := h
      cases h
      exact ⟨[], 0, rfl, by simp, (fun _ h => by cases h), rfl⟩
    | cons w r =>
      have h : (if decide ((w :: r).length < 64) && (r.all (wordOk w.length) && wordOk w.length w) then some ((wordSort (w :: r)).map wordTup) else none) = some ys := h
      by_cases hz : (decide ((w :: r).length < 64) && (r.all (wordOk w.length) && wordOk w.length w)) = true
      · rw [if_pos hz] at h
        cases h
        simp only [Bool.and_eq_true, decide_eq_true_eq, List.all_eq_true] at hz
        refine ⟨w :: r, w.length, rfl, hz.1, fun v hv => ?_, rfl⟩
        rcases List.mem_cons.mp hv with z | z
        · rw [z]; exact wordOk_iff hz.2.2
        · exact wordOk_iff (hz.2.1 v z)
      · rw [if_neg hz] at h
        cases h
theorem s_sortedSet {a : Expr} {p1 p2 pos1 pos2 : Pos} {m : Env → M D} (hc : X.calm = true) (hu : X.A.units + 64 < cLine) (g1 : Gl X "sorted") (m1 : X.mg "sorted" = none) (g2 : Gl X "set") (m2 : X.mg "set" = none) (ha : PE X a (tE X.K W m))
    (hs : starEach [a] X.env = [(false, eval a X.env)]) :
    PE X (.Call (.Name "sorted" p1) [.Call (.Name "set" p2) [a] [] pos2] [] pos1) (tE X.K W fun ρ => M.bnd (m ρ) (biM .sortedSet)) := by
  have inner := pe_callTy (cr_setOfT hc hu) g2 m2 (by decide +kernel) (p := p2) (pos := pos2) (pa_cons ha pa_nil hs) (by decide) (by decide) hs
  refine PE.imp (pe_callB (CallR.or (cr_sortedT hc) (cr_sorted1 hc)) g1 m1 (by decide +kernel) (pa_cons inner pa_nil)) fun σ H Q ⟨G, ρ, S, Hin, A, h⟩ => ?_
  refine tM_bnd rVal.mono A h fun v d G1 H1 S1 x1 A1 r1 h1 => ?_
  rcases biM_ok .sortedSet d S1 with e | ⟨d', e⟩
  · rw [e] at h1; exact h1.elim
  · rw [e] at h1
    simp only [biM] at e
    split at e
    · rename_i ys e1
      cases e
      obtain ⟨ds, e2, e3⟩ := Option.bind_eq_some_iff.mp e1
      obtain ⟨ws, dd, e4, hw, hB, rfl⟩ := sortedSetD_ok e3
      obtain ⟨b, xs, rfl, hb, rb⟩ := r1.1.toList e2
      obtain ⟨ks, q1, q2, q3⟩ := words_ks rb e4
      subst q1
      have hks : ks.length < 64 := by
        have := congrArg List.length q2
        rw [List.length_map] at this
        omega
      refine ⟨b, ks, rfl, SqL.of hb, q3, hks, fun sa L hsa hL1 hL2 => ?_⟩
      have R := A1.st
      have ex := Ext.new (o := SetTO X.prog X.w sa L) R hsa
      have tup' : ∀ p ∈ L, SqT X.K (upd H1 sa (SetTO X.prog X.w sa L)) p.1 (p.2.map V.int) := fun p hp => SqT.ext ex (q3 p (hL1 p hp))
      have hLB : ∀ p ∈ L, p.2.length = dd ∧ TS.Bd 4 p.2 := fun p hp => hB p.2 (by rw [← q2]; exact List.mem_map.mpr ⟨p, hL1 p hp, rfl⟩)
      have mem : ∀ v, v ∈ L.map (·.2) ↔ v ∈ wordSort ws := fun v => by
        rw [wordSort_mem, ← q2]
        constructor
        · intro hv
          obtain ⟨p, hp, rfl⟩ := List.mem_map.mp hv
          exact List.mem_map.mpr ⟨p, hL1 p hp, rfl⟩
        · intro hv
          obtain ⟨p, hp, rfl⟩ := List.mem_map.mp hv
          exact hL2 p hp
      -- the end, from a list of the set's words that rises
      have fin : ∀ (L' : List (Addr × List Int)) (p : Addr), (∀ v, v ∈ L'.map (·.2) ↔ v ∈ wordSort ws) → Rise (L'.map (·.2)) → (∀ q ∈ L', SqT X.K (upd H1 sa (SetTO X.prog X.w sa L)) q.1 (q.2.map V.int)) → upd H1 sa (SetTO X.prog X.w sa L) p = none →
          Q (.ref p) (upd (upd H1 sa (SetTO X.prog X.w sa L)) p (.lst (L'.map fun q => V.ref q.1))) := fun L' p hm hr ht hp => by
        have e5 : L'.map (·.2) = wordSort ws := Rise.unique hr (wordSort_rise ws) hm
        refine finL (G := G1) (H := upd H1 sa (SetTO X.prog X.w sa L)) (S := S1) (ds := (wordSort ws).map wordTup) (fun v' G' H' ex' r' R' => ?_) (by rw [← e5]; exact words_rl L' ht) (R.new hsa) hp
        exact h1 v' G' H' (ex.seq ex') (rVal.mono _ _ _ _ _ _ ex.trk r') R'
      by_cases hd : 1 ≤ dd
      · refine .inl ⟨sa, L, dd, 4, rfl, upd_same, tup', hd, hLB, fun L' p pm nd _ pw hp => fin L' p (fun v => ?_) ?_ (fun q hq => tup' q (pm.mem_iff.mp hq)) hp⟩
        · rw [← mem v]
          exact (pm.map (·.2)).mem_iff
        · have pw' : (L'.map (·.2)).Pairwise (fun a b => TS.code 4 a ≤ TS.code 4 b) := List.pairwise_map.mpr pw
          refine List.Pairwise.imp_of_mem (fun {a b} ha hb hab => ?_) (pw'.and nd)
          obtain ⟨qa, hqa, rfl⟩ := List.mem_map.mp ha
          obtain ⟨qb, hqb, rfl⟩ := List.mem_map.mp hb
          have b1 := hLB qa (pm.mem_iff.mp hqa)
          have b2 := hLB qb (pm.mem_iff.mp hqb)
          exact code_lex (by rw [b1.1, b2.1]) b1.2 b2.2 hab.1 hab.2
      · have hd0 : dd = 0 := by omega
        refine .inr ⟨sa, L, rfl, upd_same, tup', ?_, fun nd p hp => fin L p mem ?_ tup' hp⟩
        · exact fun p hp => List.eq_nil_of_length_eq_zero ((hLB p hp).1.trans hd0)
        · have nil : ∀ v ∈ L.map (·.2), v = [] := fun v hv => by
            obtain ⟨p, hp, rfl⟩ := List.mem_map.mp hv
            exact List.eq_nil_of_length_eq_zero ((hLB p hp).1.trans hd0)
          refine List.Pairwise.imp_of_mem (fun {a b} ha hb hab => ?_) nd
          exact absurd ((nil a ha).trans (nil b hb).symm) hab
    · cases e
end
end WB
namespace WB
open PySem L2
section
variable {α β : Type}
variable {lt : α → α → Bool}
theorem insL_perm (x : α) : ∀ l : List α, (insL lt x l).Perm (x :: l)
  | [] => List.Perm.refl _
  | y :: r => by
    unfold insL
    split
    · exact ((insL_perm x r).cons y).trans (List.Perm.swap x y r)
    · exact List.Perm.refl _
theorem insL_cls (O : SrtO.Swo lt) (x z : α) : ∀ l : List α, (insL lt x l).filter (SrtO.eqv lt z) = (x :: l).filter (SrtO.eqv lt z)
  | [] => rfl
  | y :: r => by
    unfold insL
    split
    · rename_i h
      have ih := insL_cls O x z r
      rcases SrtO.bcase (SrtO.eqv lt z y) with a | a
      · have b : SrtO.eqv lt z x = false := by
          rcases SrtO.bcase (SrtO.eqv lt z x) with b | b
          · exfalso
            obtain ⟨a1, a2⟩ := SrtO.eqv_iff.mp a
            obtain ⟨b1, b2⟩ := SrtO.eqv_iff.mp b
            have := O.tr x z y b1 a2
            rw [h] at this
            cases this
          · exact b
        rw [List.filter_cons_of_pos a, ih, List.filter_cons_of_neg (by rw [b]; decide), List.filter_cons_of_neg (by rw [b]; decide), List.filter_cons_of_pos a]
      · rw [List.filter_cons_of_neg (by rw [a]; decide), ih]
        rcases SrtO.bcase (SrtO.eqv lt z x) with b | b
        · rw [List.filter_cons_of_pos b, List.filter_cons_of_pos b, List.filter_cons_of_neg (by rw [a]; decide)]
        · rw [List.filter_cons_of_neg (by rw [b]; decide), List.filter_cons_of_neg (by rw [b]; decide), List.filter_cons_of_neg (by rw [a]; decide)]
    · rfl
theorem insL_srtd (O : SrtO.Swo lt) (x : α) : ∀ {l : List α}, SrtO.Srtd lt l → SrtO.Srtd lt (insL lt x l)
  | [], _ => List.pairwise_singleton _ _
  | y :: r, h => by
    obtain ⟨h1, h2⟩ := List.pairwise_cons.mp h
    unfold insL
    split
    · rename_i q
      refine List.pairwise_cons.mpr ⟨fun z hz => ?_, insL_srtd O x h2⟩
      rcases List.mem_cons.mp ((insL_perm x r).mem_iff.mp hz) with e | e
      · rw [e]; exact O.asym y x q
      · exact h1 z e
    · rename_i q
      have q' : lt y x = false := by simpa using q
      refine List.pairwise_cons.mpr ⟨fun z hz => ?_, h⟩
      rcases List.mem_cons.mp hz with e | e
      · rw [e]; exact q'
      · exact O.tr x y z q' (h1 z e)
theorem sortL_perm : ∀ l : List α, (sortL lt l).Perm l
  | [] => List.Perm.refl _
  | x :: l => (insL_perm x (sortL lt l)).trans ((sortL_perm l).cons x)
theorem sortL_srtd (O : SrtO.Swo lt) : ∀ l : List α, SrtO.Srtd lt (sortL lt l)
  | [] => List.Pairwise.nil
  | x :: l => insL_srtd O x (sortL_srtd O l)
theorem sortL_cls (O : SrtO.Swo lt) (z : α) : ∀ l : List α, (sortL lt l).filter (SrtO.eqv lt z) = l.filter (SrtO.eqv lt z)
  | [] => rfl
  | x :: l => by
    show (insL lt x (sortL lt l)).filter _ = _
    rw [insL_cls O x z, List.filter_cons, List.filter_cons, sortL_cls O z l]
theorem sortL_uniq (O : SrtO.Swo lt) {l m : List α} (h : SrtO.Srtd lt m) (s : SrtO.Stb lt m l) : m = sortL lt l :=
  SrtO.stb_uniq O h (sortL_srtd O l) ⟨s.perm.trans (sortL_perm l).symm, fun z => (s.cls z).trans (sortL_cls O z l).symm⟩
theorem insL_map {lt' : β → β → Bool} (f : β → α) (hf : ∀ a b, lt' a b = lt (f a) (f b)) (x : β) : ∀ l : List β, (insL lt' x l).map f = insL lt (f x) (l.map f)
  | [] => rfl
  | y :: r => by
    show (if lt' y x then y :: insL lt' x r else x :: y :: r).map f = if lt (f y) (f x) then f y :: insL lt (f x) (r.map f) else f x :: f y :: r.map f
    rw [hf, ← insL_map f hf x r]
    cases lt (f y) (f x) <;> simp
theorem sortL_map {lt' : β → β → Bool} (f : β → α) (hf : ∀ a b, lt' a b = lt (f a) (f b)) : ∀ l : List β, (sortL lt' l).map f = sortL lt (l.map f)
  | [] => rfl
  | x :: l => by
    show (insL lt' x (sortL lt' l)).map f = insL lt (f x) (sortL lt (l.map f))
    rw [insL_map f hf, sortL_map f hf l]
end
theorem zip_map2 {α β γ : Type} (f : α → β) (g : α → γ) : ∀ l : List α, (l.map f).zip (l.map g) = l.map fun x => (f x, g x)
  | [] => rfl
  | x :: l => by simp [zip_map2 f g l]
theorem map_inj {α β : Type} {f : α → β} : ∀ {l : List α} {x y : α}, (l.map f).Nodup → x ∈ l → y ∈ l → f x = f y → x = y
  | [], _, _, _, h, _, _ => by cases h
  | z :: l, x, y, nd, hx, hy, e => by
    rw [List.map_cons] at nd
    obtain ⟨n1, n2⟩ := List.nodup_cons.mp nd
    rcases List.mem_cons.mp hx with a | a <;> rcases List.mem_cons.mp hy with b | b
    · rw [a, b]
    · subst a; exact absurd (List.mem_map.mpr ⟨y, b, e.symm⟩) n1
    · subst b; exact absurd (List.mem_map.mpr ⟨x, a, e⟩) n1
    · exact map_inj n2 a b e
theorem vals_app : ∀ {xs ys : List V} {us : List Value}, Vals (xs ++ ys) us → ∃ ps rs, us = ps ++ rs ∧ Vals xs ps ∧ Vals ys rs
  | [], _, us, h => ⟨[], us, rfl, .nil, h⟩
  | x :: xs, ys, _, .cons r t => by
    obtain ⟨ps, rs, e, h1, h2⟩ := vals_app (xs := xs) (ys := ys) t
    exact ⟨_ :: ps, rs, by rw [e]; rfl, .cons r h1, h2⟩
theorem swo_key {α : Type} (k : α → List Int) : SrtO.Swo fun v u => HT.lexLt (k v) (k u) := by
  refine ⟨fun x y h => ?_, fun x y z h1 h2 => ?_⟩
  · cases e : HT.lexLt (k y) (k x) with
    | false => rfl
    | true =>
      have := lexLt_trans h e
      rw [lexLt_irrefl] at this
      cases this
  · cases e : HT.lexLt (k z) (k x) with
    | false => rfl
    | true =>
      by_cases a : k y = k x
      · rw [← a] at e
        rw [h2] at e; cases e
      · have q := lexLt_total a h1
        have := lexLt_trans e q
        rw [h2] at this; cases this

section
open PyProof.Rows SrtO Srt TS
variable {prog : Program} {w : World} {A : Around} {E : Value → Shared → Prop} {s : Shared}
theorem intsLen : ∀ {ps : List Value} {k : List Int}, IntsAre ps k → ps.length = k.length := fun h => by
  induction h with
  | nil => rfl
  | cons p t h ih => rw [List.length_cons, List.length_cons, ih]
theorem intsOne : ∀ {ps : List Value} {k k' : List Int}, IntsAre ps k → IntsAre ps k' → k = k' := fun {ps k k'} h h' => by
  induction h generalizing k' with
  | nil => cases h'; rfl
  | cons p t h ih =>
    cases h' with
    | cons q u h' => rw [ih h']
/-- v is a tuple: the ints k, then r -/
def IsKT (h : Heap) (v : Value) (k : List Int) (r : List Value) : Prop := ∃ a o n ps, v = .ref a ∧ h.get? a = some o ∧ o.cls = .type "tuple" ∧ o.data = .seq (ps ++ r).toArray n ∧ IntsAre ps k
theorem IsKT.keeps {h h' : Heap} {v : Value} {k : List Int} {r : List Value} (p : IsKT h v k r) (q : ∀ b o, h.get? b = some o → o.cls = .type "tuple" → h'.get? b = some o) : IsKT h' v k r := by
  obtain ⟨a, o, n, ps, e, ho, hc, hd, hi⟩ := p
  exact ⟨a, o, n, ps, e, q _ _ ho hc, hc, hd, hi⟩
theorem kt_same {b fin : Bool} {Q : Bool → Shared → Prop} (h : Q fin s) : ∀ (r : List Value) (i : Nat), PySem.W.KatLex prog w A b fin Q (r.zip r) i s
  | [], _ => PySem.W.kat_nil h
  | v :: r, i => by
    show PySem.W.KatLex prog w A b fin Q ((v, v) :: r.zip r) i s
    exact PySem.W.kat_cons (SeqAt.EqAt.same v prog w _ _ (PySem.W.kat_yes (kt_same h r (i + 1))))
theorem kt_lex {b fin : Bool} {Q : Bool → Shared → Prop} {ps qs r1 r2 : List Value} {k m : List Int} (i : Nat) (hx : IntsAre ps k) (hy : IntsAre qs m) (hl : k.length = m.length) (he : k = m → r1 = r2 ∧ fin = false)
    (h : Q (HT.lexLt k m) s) : PySem.W.KatLex prog w A b fin Q ((ps ++ r1).zip (qs ++ r2)) i s := by
  induction hx generalizing qs m i with
  | nil =>
    cases hy with
    | nil =>
      obtain ⟨e1, e2⟩ := he rfl
      subst e1 e2
      exact kt_same h _ _
    | cons q u hy => simp at hl
  | @cons p t xs ns hx ih =>
    cases hy with
    | nil => simp at hl
    | @cons q u ys ms hy =>
      have hl' : ns.length = ms.length := by simpa using hl
      show PySem.W.KatLex prog w A b fin Q ((Value.int p t, Value.int q u) :: (xs ++ r1).zip (ys ++ r2)) i s
      refine PySem.W.kat_cons (wpAny_eqBool_int ?_)
      rw [HT.lexLt_cons] at h
      by_cases e : p = q
      · subst e
        rw [beq_self_eq_true]
        rw [if_pos rfl] at h
        exact PySem.W.kat_yes (ih (i + 1) hy hl' (fun z => he (by rw [z])) h)
      · rw [show (p == q) = false from beq_eq_false_iff_ne.mpr e]
        rw [if_neg e] at h
        exact PySem.W.kat_no (oneLt_ints _ h)
theorem kt_cmp {vs : List Value} {n : Nat} {kv : Value → List Int} {rv : Value → List Value} (hp : ∀ v ∈ vs, IsKT s.heap v (kv v) (rv v) ∧ (kv v).length = n) (hu : ∀ v ∈ vs, ∀ u ∈ vs, kv v = kv u → rv v = rv u) :
    SrtO.Cmp prog w A s (tuples' true) (fun p => p.1 ∈ vs) (lt2 fun v u => HT.lexLt (kv v) (kv u)) := by
  intro p q hm hm'
  obtain ⟨⟨a, o, n1, ps, e, ho, hc, hd, hi⟩, l1⟩ := hp _ hm
  obtain ⟨⟨a', o', n2, qs, e', ho', hc', hd', hi'⟩, l2⟩ := hp _ hm'
  show wpAny (model prog w) A (keyLt' (tuples' true) p.1 q.1) (fun r s' => s' = s ∧ r = HT.lexLt (kv p.1) (kv q.1)) (fun _ _ => False) s
  have hr := hu _ hm _ hm'
  generalize kv p.1 = k1 at hi l1 hr ⊢
  generalize kv q.1 = k2 at hi' l2 hr ⊢
  generalize rv p.1 = r1 at hd hr ⊢
  generalize rv q.1 = r2 at hd' hr ⊢
  rw [e, e']
  refine PySem.W.kat_lt ho hd ho' hd' ?_
  refine kt_lex (k := k1) (m := k2) 0 hi hi' (l1.trans l2.symm) (fun z => ⟨hr z, ?_⟩) ⟨rfl, rfl⟩
  have e1 := intsLen hi
  have e2 := intsLen hi'
  rw [hr z]
  simp only [List.size_toArray, List.length_append, e1, e2, l1, l2, Nat.lt_irrefl, decide_false]
theorem IsKT.one {h : Heap} {v : Value} {k k' : List Int} {r r' : List Value} (p : IsKT h v k r) (q : IsKT h v k' r') (hl : k.length = k'.length) : k = k' ∧ r = r' := by
  obtain ⟨a, o, n1, ps, e, ho, hc, hd, hi⟩ := p
  obtain ⟨a', o', n2, qs, e', ho', hc', hd', hi'⟩ := q
  cases e.symm.trans e'
  cases ho.symm.trans ho'
  have z := hd.symm.trans hd'
  injection z with z1 z2
  have z3 : ps ++ r = qs ++ r' := by simpa using congrArg Array.toList z1
  obtain ⟨w1, w2⟩ := List.append_inj z3 (by rw [intsLen hi, intsLen hi', hl])
  subst w1
  exact ⟨intsOne hi hi', w2⟩
theorem kt_firsts {h : Heap} {n : Nat} (hn : 1 ≤ n) : ∀ {vs : List Value}, (∀ v ∈ vs, ∃ k r, IsKT h v k r ∧ k.length = n) → ∃ fs : List Value, PySem.W.KatTups h vs fs ∧ fs.length = vs.length ∧ ∀ f ∈ fs, ∃ x t, f = Value.int x t
  | [], _ => ⟨[], PySem.W.KatTups.nil, rfl, fun _ hm => by cases hm⟩
  | v :: vs, hp => by
    obtain ⟨fs, g1, g2, g3⟩ := kt_firsts hn (vs := vs) fun u m => hp u (List.mem_cons_of_mem _ m)
    obtain ⟨k, r, ⟨a, o, c, ps, e, ho, hc, hd, hi⟩, hk⟩ := hp v List.mem_cons_self
    subst e
    cases hi with
    | nil => exact absurd hk (by simp; omega)
    | cons p t hi =>
      refine ⟨.int p t :: fs, PySem.W.KatTups.cons ho hc hd (by simp) g1, by simp [g2], fun f m => ?_⟩
      rcases List.mem_cons.mp m with z | m
      · exact ⟨p, t, z⟩
      · exact g3 f m
theorem kt_sortable {a : Addr} {vs : List Value} {n : Nat} {kv : Value → List Int} {rv : Value → List Value} (hn : 1 ≤ n) (h0 : 0 < vs.length) (hp : ∀ v ∈ vs, IsKT s.heap v (kv v) (rv v) ∧ (kv v).length = n) (hu : ∀ v ∈ vs, ∀ u ∈ vs, kv v = kv u → rv v = rv u)
    (ha : ∀ o, s.heap.get? a = some o → o.cls ≠ .type "tuple") : SrtO.SortableO prog w A s a vs fun v u => HT.lexLt (kv v) (kv u) := by
  intro hh kp
  have hp' : ∀ v ∈ vs, IsKT hh v (kv v) (rv v) ∧ (kv v).length = n := fun v m => ⟨(hp v m).1.keeps fun b o e c => kp b o (fun z => by subst z; exact ha o e c) e, (hp v m).2⟩
  obtain ⟨fs, g1, g2, g3⟩ := kt_firsts (h := hh) hn (vs := vs) fun v m => ⟨_, _, hp' v m⟩
  refine ⟨tuples' true, fun R EE hq => ?_, kt_cmp hp' hu⟩
  refine PySem.W.kat_kind (T := .type "int") g1 (by omega) (fun f m => ?_) (by rfl) ?_
  · obtain ⟨x, t, z⟩ := g3 f m
    subst z
    exact PySem.W.Looks.now
  · rw [show (Value.type "int" != Value.type "tuple") = true by first | decide +kernel | rfl | decide]
    exact hq
/-- collect of a tuple -/
theorem collT {l : Addr} {vs : List Value} {R : List Value → Shared → Prop} (hl : s.heap.IsTuple l vs.toArray) (hz : vs.length ≤ sizeLine)
    (q : R vs { s with heap := (s.heap.push (seqObj "list" #[] 0)).update s.heap.objs.size (Obj.mapSeq (· ++ vs.toArray)) }) : wpAny (model prog w) A (collect (.ref l)) R E s := by
  obtain ⟨o, ho, hc, n, hd⟩ := id hl
  unfold collect
  refine wpAny_bind (wpAny_runValue (codeAny_builtin entry_proto_collect' ?_)); show wpAny _ _ (do again (.builtin "list.__iadd__" ⟨[← newList [], .ref l], []⟩)) _ _ s
  refine wpAny_bind (wpAny_newList (wpAny_pure ⟨Code.quiet_builtin _ (by decide +kernel), codeAny_builtin entry_list_iadd' ?_⟩)); show wpAny _ _ (Builtin.List.listExtendWith (.ref s.heap.objs.size) (.ref l) (.ref s.heap.objs.size)) _ _ { s with heap := s.heap.push (seqObj "list" #[] 0) }
  unfold Builtin.List.listExtendWith
  have hb : (s.heap.push (seqObj "list" #[] 0)).get? l = some o := Heap.get?_push_of_some _ ho
  refine wpAny_bind (wpAny_typeOf (T := "tuple") ⟨o, hb, hc⟩ ?_)
  rw [if_pos (by first | rfl | decide | simp)]
  refine wpAny_bind (listItems_at hb hd ?_)
  refine wpAny_bind (listItems_at (xs := #[]) (n := 0) (Heap.get?_push_size _ rfl) rfl ?_); rw [if_neg (by simp)]
  refine wpAny_bind (listUpdate_at (xs := #[]) (n := 0) (Heap.get?_push_size _ rfl) rfl ?_ (Nat.zero_le _) (by show (#[] ++ vs.toArray).size ≤ sizeLine + 1; simp; omega))
  refine wpAny_pure ?_
  show wpAny (model prog w) A (do let o ← load s.heap.objs.size; match o.data with | .seq xs _ => pure xs.toList | _ => unsupported "internal:collect") R E _
  refine wpAny_bind (wpAny_load (get?_update_seq (Heap.get?_push_size _ rfl) _) ?_)
  show wpAny _ _ (pure ((#[] : Array Value) ++ vs.toArray).toList) R E _
  rw [show ((#[] : Array Value) ++ vs.toArray).toList = vs by simp]; exact wpAny_pure q
/-- sorted(l), however its items are collected -/
theorem sortedC {l : Addr} {vs : List Value} {n : Nat} {kv : Value → List Int} {rv : Value → List Value} {R : Value → Shared → Prop} (hz : vs.length ≤ sizeLine)
    (hcol : ∀ (A : Around) (E : Value → Shared → Prop) (R : List Value → Shared → Prop), R vs { s with heap := (s.heap.push (seqObj "list" #[] 0)).update s.heap.objs.size (Obj.mapSeq (· ++ vs.toArray)) } → wpAny (model prog w) A (collect (.ref l)) R E s)
    (hp : 2 ≤ vs.length → 1 ≤ n ∧ (∀ v ∈ vs, IsKT s.heap v (kv v) (rv v) ∧ (kv v).length = n) ∧ ∀ v ∈ vs, ∀ u ∈ vs, kv v = kv u → rv v = rv u)
    (q : ∀ (hh : Heap) (d : Addr), (∀ b o, s.heap.get? b = some o → hh.get? b = some o) → s.heap.objs.size ≤ d → (∃ c, hh.get? d = some (seqObj "list" (sortL (fun v u => HT.lexLt (kv v) (kv u)) vs).toArray c)) → R (.ref d) { s with heap := hh }) :
    wpAny (model prog w) A (call (.builtin "sorted") [.ref l]) R E s := by
  refine Calls.call_function_entry kind_sorted plain_sorted entry_sorted (args_sorted1 _) ?_; unfold Builtin.«sorted»
  refine wpAny_bind (m := checkCount "sorted" 1 1 _) (wpAny_pure ?_); refine wpAny_bind (hcol _ _ _ ?_)
  refine wpAny_bind (wpAny_newList ?_ hz)
  generalize hg : (s.heap.push (seqObj "list" #[] 0)).update s.heap.objs.size (Obj.mapSeq (· ++ vs.toArray)) = h1
  have z1 : h1.objs.size = s.heap.objs.size + 1 := by rw [← hg, Heap.size_update, size_push']
  have z2 : (h1.push (seqObj "list" vs.toArray 0)).get? (s.heap.objs.size + 1) = some (seqObj "list" vs.toArray 0) := by rw [← z1]; exact Heap.get?_push_size _ rfl
  have kp : ∀ b o, s.heap.get? b = some o → b ≠ s.heap.objs.size + 1 ∧ (h1.push (seqObj "list" vs.toArray 0)).get? b = some o := fun b o e => by
    have lt : b < s.heap.objs.size := Heap.lt_size e
    refine ⟨Nat.ne_of_lt (Nat.lt_succ_of_lt lt), Heap.get?_push_of_some _ ?_⟩
    rw [← hg, Heap.get?_update_ne _ _ _ _ (Nat.ne_of_lt lt)]; exact Heap.get?_push_of_some _ e
  show wpAny _ _ _ _ _ { s with heap := h1.push (seqObj "list" vs.toArray 0) }
  rw [z1]
  refine wpAny_bind (wpAny_holding (wpAny_call_entry slot_list_sort ⟨_, z2, rfl⟩ entry_list_sort (SrtO.list_sort_ord (swo_key kv) z2 hz (fun h2 => ?_) fun out hs hb => ⟨_, rfl, ?_⟩) (args_list_sort _)))
  · obtain ⟨p1, p2, p3⟩ := hp h2
    refine kt_sortable p1 (by omega) (fun v m => ⟨(p2 v m).1.keeps fun b o e _ => (kp b o e).2, (p2 v m).2⟩) p3 fun o e => ?_
    have e' : some o = some (seqObj "list" vs.toArray 0) := e.symm.trans z2
    cases e'
    intro c
    exact absurd (Value.type.inj c) (by decide)
  · have eo := sortL_uniq (swo_key kv) hs hb
    subst eo
    have w1 : sortedAll s.heap vs (sortL (fun v u => HT.lexLt (kv v) (kv u)) vs).toArray = sortedHeap (h1.push (seqObj "list" vs.toArray 0)) (s.heap.objs.size + 1) vs (sortL (fun v u => HT.lexLt (kv v) (kv u)) vs).toArray := by rw [← hg]; rfl
    refine wpAny_pure ⟨_, rfl, ?_⟩
    rw [← w1]
    exact q _ _ (fun b o e => sortedAll_old e) (Nat.le_succ _) (sortedAll_at s.heap vs _)
end
def rSortN (K : PySem.W.Frag) : List V → Hp → VK → Prop := fun vs H Q => ∃ a xs, vs = [V.ref a] ∧ (SqL K H a xs ∨ SqT K H a xs) ∧
  ((xs.length ≤ 1 ∧ ∀ p, H p = none → Q (.ref p) (upd H p (.lst xs))) ∨
   ∃ (n : Nat) (ks : List (List Int)), 1 ≤ n ∧ Paired (fun (x : V) (k : List Int) => k.length = n ∧ ∃ (t : Addr) (r : List V), x = V.ref t ∧ SqT K H t (k.map V.int ++ r)) xs ks ∧ (ks.Nodup ∨ ∀ x ∈ xs, ∃ (t : Addr) (k : List Int), x = V.ref t ∧ SqT K H t (k.map V.int) ∧ k.length = n) ∧
    ∀ p, H p = none → Q (.ref p) (upd H p (.lst ((sortL ltK (ks.zip xs)).map (·.2)))))
section
open PyProof.Rows
variable {X : Cx} {pins : List (Addr × Obj)} {σ : L2.St} {H : Hp} {s : Shared}
theorem kt_raw (I : Inv X pins σ H s) {t : Addr} {k : List Int} {r : List V} (h : SqT X.K H t (k.map V.int ++ r)) : ∃ rs, IsKT s.heap (.ref t) k rs ∧ (r = [] → rs = []) := by
  obtain ⟨its, rv, hT, _⟩ := I.tuple h
  obtain ⟨ps, rs, e, h1, h2⟩ := vals_app rv
  subst e
  obtain ⟨o, ho, hc, n, hd⟩ := hT
  refine ⟨rs, ⟨t, o, n, ps, rfl, ho, hc, hd, h1.ints⟩, fun z => ?_⟩
  subst z
  cases h2
  rfl
theorem kt_list (I : Inv X pins σ H s) {n : Nat} {kv : Value → List Int} (hkv : ∀ v k rs, IsKT s.heap v k rs → k.length = n → kv v = k) : ∀ {xs : List V} {its : List Value} {ks : List (List Int)}, Vals xs its → Paired (fun (x : V) (k : List Int) => k.length = n ∧ ∃ (t : Addr) (r : List V), x = V.ref t ∧ SqT X.K H t (k.map V.int ++ r)) xs ks →
    xs = its.map backV ∧ ks = its.map kv ∧ ∀ v ∈ its, (∃ a, v = Value.ref a) ∧ (∃ rs, IsKT s.heap v (kv v) rs) ∧ (kv v).length = n
  | _, _, _, .nil, .nil => ⟨rfl, rfl, fun v m => by cases m⟩
  | _, _, _, .cons rx rv, .cons ⟨hk, t, r, ex, hT⟩ pr => by
    subst ex
    cases rx
    obtain ⟨e1, e2, e3⟩ := kt_list I hkv rv pr
    obtain ⟨rs, q, _⟩ := kt_raw I hT
    have ek := hkv _ _ _ q hk
    refine ⟨by rw [List.map_cons, ← e1]; rfl, by rw [List.map_cons, ← e2, ek], fun v m => ?_⟩
    rcases List.mem_cons.mp m with z | z
    · subst z
      rw [ek]
      exact ⟨⟨_, rfl⟩, ⟨rs, q⟩, hk⟩
    · exact e3 v z
open Classical in
theorem cr_sortN : CallR X (.builtin "sorted") (rSortN X.K) := by
  intro pins s σ H vs us Q I r h
  obtain ⟨a, xs, rfl, hs, h⟩ := h
  obtain ⟨u, rfl, ru⟩ := vals1 r
  obtain rfl : u = Value.ref a := ru
  obtain ⟨its, rv, hz, hcol⟩ : ∃ its : List Value, Vals xs its ∧ its.length ≤ sizeLine ∧ ∀ (A : Around) (E : Value → Shared → Prop) (R : List Value → Shared → Prop), R its { s with heap := (s.heap.push (seqObj "list" #[] 0)).update s.heap.objs.size (Obj.mapSeq (· ++ its.toArray)) } → wpAny (model X.prog X.w) A (collect (.ref a)) R E s := by
    rcases hs with hs | hs
    · obtain ⟨its, rv, hl, hz⟩ := I.list hs
      exact ⟨its, rv, by rw [← rv.length]; exact hz, fun A E R q => PyProof.Rows.collect_list hl.isList q (by rw [← rv.length]; exact hz)⟩
    · obtain ⟨its, rv, hl, hz⟩ := I.tuple hs
      exact ⟨its, rv, by rw [← rv.length]; exact hz, fun A E R q => collT hl (by rw [← rv.length]; exact hz) q⟩
  have hx : xs.length = its.length := rv.length
  rcases h with ⟨h1, q⟩ | ⟨n, ks, hn, pr, hnd, q⟩
  · refine sortedC (n := 0) (kv := fun _ => []) (rv := fun _ => []) hz hcol (fun z => by omega) fun hh d kp hd ⟨c, hc⟩ => ?_
    have e : sortL (fun v u : Value => HT.lexLt ((fun _ => []) v) ((fun _ => []) u)) its = its := by
      match its, hx with
      | [], _ => rfl
      | [v], _ => rfl
      | _ :: _ :: l, z => rw [List.length_cons, List.length_cons] at z; omega
    rw [e] at hc
    exact ⟨.ref d, upd H d (.lst xs), I.laid (t' := s.toks) kp hd ⟨by rw [hx]; exact hz, its, c, rv, hc⟩, rfl, q d (I.hok.fresh hd)⟩
  · let kv : Value → List Int := fun v => if h : ∃ k rs, IsKT s.heap v k rs ∧ k.length = n then Classical.choose h else []
    have hkv : ∀ v k rs, IsKT s.heap v k rs → k.length = n → kv v = k := fun v k rs p hl => by
      have hx : ∃ k rs, IsKT s.heap v k rs ∧ k.length = n := ⟨k, rs, p, hl⟩
      show (if h : ∃ k rs, IsKT s.heap v k rs ∧ k.length = n then Classical.choose h else []) = k
      rw [dif_pos hx]
      obtain ⟨rs', p', hl'⟩ := Classical.choose_spec hx
      exact (p'.one p (hl'.trans hl.symm)).1
    obtain ⟨e1, e2, e3⟩ := kt_list I hkv rv pr
    let rw' : Value → List Value := fun v => if h : ∃ rs, IsKT s.heap v (kv v) rs then Classical.choose h else []
    have hrv : ∀ v ∈ its, IsKT s.heap v (kv v) (rw' v) := fun v m => by
      have hx := (e3 v m).2.1
      show IsKT s.heap v (kv v) (if h : ∃ rs, IsKT s.heap v (kv v) rs then Classical.choose h else [])
      rw [dif_pos hx]
      exact Classical.choose_spec hx
    refine sortedC (n := n) (kv := kv) (rv := rw') hz hcol (fun _ => ⟨hn, fun v m => ⟨hrv v m, (e3 v m).2.2⟩, fun v mv u mu ek => ?_⟩) fun hh d kp hd ⟨c, hc⟩ => ?_
    · rcases hnd with nd | al
      · rw [e2] at nd
        exact congrArg rw' (map_inj nd mv mu ek)
      · have nil : ∀ v ∈ its, rw' v = [] := fun v m => by
          obtain ⟨a', ea⟩ := (e3 v m).1
          subst ea
          have mx : V.ref a' ∈ xs := by rw [e1]; exact List.mem_map.mpr ⟨_, m, rfl⟩
          obtain ⟨t, k, et, hT, hk⟩ := al _ mx
          cases et
          obtain ⟨rs, p, z⟩ := kt_raw I (r := []) (k := k) (by simpa using hT)
          have := (hrv _ m).one p ((e3 _ m).2.2.trans hk.symm)
          rw [this.2, z rfl]
        exact (nil v mv).trans (nil u mu).symm
    · let f : Value → List Int × V := fun v => (kv v, backV v)
      have ez : ks.zip xs = its.map f := by rw [e1, e2, zip_map2]
      have eo : (sortL ltK (ks.zip xs)).map (·.2) = (sortL (fun v u => HT.lexLt (kv v) (kv u)) its).map backV := by
        rw [ez, ← sortL_map (lt := ltK) f (fun _ _ => rfl) its, List.map_map]
        rfl
      have h3 : ∀ u ∈ sortL (fun v u => HT.lexLt (kv v) (kv u)) its, ∃ a, u = Value.ref a := fun u hu => (e3 u ((sortL_perm its).mem_iff.mp hu)).1
      refine ⟨.ref d, upd H d (.lst ((sortL ltK (ks.zip xs)).map (·.2))), I.laid (t' := s.toks) kp hd ⟨?_, _, c, ?_, hc⟩, rfl, q d (I.hok.fresh hd)⟩
      · rw [eo, List.length_map, (sortL_perm its).length_eq]
        exact hz
      · rw [eo]
        exact vals_back h3
end
end WB
namespace WB
open PySem L2
section
variable {X : Cx} {W : WX}
theorem ints_app {K : PySem.W.Frag} {G : Gh} {H : Hp} {n : Nat} {k : List Int} {xs : List V} {ds : List D} (r : Rls K G H xs ds) (e : D.ints? (ds.take n) = some k) : xs = k.map V.int ++ xs.drop n := by
  have h := (r.take n).ints e
  rw [← h, List.take_append_drop]
theorem ints_len : ∀ {ds : List D} {k : List Int}, D.ints? ds = some k → k.length = ds.length
  | [], _, h => by simp only [D.ints?, Option.some.injEq] at h; subst h; rfl
  | .int i :: r, k, h => by
    simp only [D.ints?] at h
    cases e : D.ints? r with
    | none => simp [e] at h
    | some w =>
      simp only [e, Option.map_some, Option.some.injEq] at h
      subst h
      rw [List.length_cons, List.length_cons, ints_len e]
  | .non :: _, _, h | .bl _ :: _, _, h | .str _ :: _, _, h | .tup _ :: _, _, h | .lst _ :: _, _, h | .own _ :: _, _, h | .bor _ :: _, _, h | .scr _ :: _, _, h | .ref _ :: _, _, h => by simp [D.ints?] at h
theorem keyN_ok {K : PySem.W.Frag} {G : Gh} {H : Hp} {n : Nat} {v : V} {d : D} {k : List Int} (r : Rl0 K G H v d) (e : keyN n d = some k) : k.length = n ∧ ∃ (t : Addr) (q : List V), v = V.ref t ∧ SqT K H t (k.map V.int ++ q) ∧ (lenIs n d = true → q = []) := by
  cases r with
  | @tup a xs ds h1 h2 =>
    simp only [keyN] at e
    split at e
    · rename_i hn
      refine ⟨by rw [ints_len e, List.length_take]; omega, a, xs.drop n, rfl, by rw [← ints_app h2 e]; exact h1, fun z => ?_⟩
      simp only [lenIs, beq_iff_eq] at z
      exact List.drop_eq_nil_of_le (by rw [h2.length]; omega)
    · cases e
  | _ => simp [keyN] at e
theorem keysN_ok {K : PySem.W.Frag} {G : Gh} {H : Hp} {n : Nat} : ∀ {vs : List V} {ds : List D} {ks : List (List Int)}, Rls K G H vs ds → keysN n ds = some ks →
    Paired (fun (x : V) (k : List Int) => k.length = n ∧ ∃ (t : Addr) (r : List V), x = V.ref t ∧ SqT K H t (k.map V.int ++ r)) vs ks ∧
    Paired (fun (p : List Int × V) (q : List Int × D) => p.1 = q.1 ∧ Rl0 K G H p.2 q.2) (ks.zip vs) (ks.zip ds) ∧
    (ds.all (lenIs n) = true → ∀ x ∈ vs, ∃ (t : Addr) (k : List Int), x = V.ref t ∧ SqT K H t (k.map V.int) ∧ k.length = n)
  | _, _, _, .nil, e => by
    simp only [keysN, Option.some.injEq] at e
    subst e
    exact ⟨.nil, .nil, fun _ _ m => by cases m⟩
  | _, _, ks, .cons (v := v) (d := d) (ds := ds) h r, e => by
    simp only [keysN] at e
    cases e1 : keyN n d with
    | none => simp [e1] at e
    | some k =>
      cases e2 : keysN n ds with
      | none => simp [e1, e2] at e
      | some ks' =>
        simp only [e1, e2, Option.some.injEq] at e
        subst e
        obtain ⟨q1, q2, q3⟩ := keysN_ok r e2
        obtain ⟨p1, t, q, p2, p3, p4⟩ := keyN_ok h e1
        refine ⟨.cons ⟨p1, t, q, p2, p3⟩ q1, .cons ⟨rfl, h⟩ q2, fun al x m => ?_⟩
        simp only [List.all_cons, Bool.and_eq_true] at al
        rcases List.mem_cons.mp m with z | z
        · have := p4 al.1
          subst this
          exact ⟨t, k, z.trans p2, by simpa using p3, p1⟩
        · exact q3 al.2 x z
theorem ins_pr {K : PySem.W.Frag} {G : Gh} {H : Hp} {p : List Int × V} {q : List Int × D} (h : p.1 = q.1 ∧ Rl0 K G H p.2 q.2) : ∀ {l : List (List Int × V)} {m : List (List Int × D)}, Paired (fun p q => p.1 = q.1 ∧ Rl0 K G H p.2 q.2) l m → Paired (fun p q => p.1 = q.1 ∧ Rl0 K G H p.2 q.2) (insL ltK p l) (insL ltK q m)
  | _, _, .nil => .cons h .nil
  | a :: l, b :: m, .cons r t => by
    have e : ltK a p = ltK b q := by unfold ltK; rw [r.1, h.1]
    show Paired _ (if ltK a p then a :: insL ltK p l else p :: a :: l) (if ltK b q then b :: insL ltK q m else q :: b :: m)
    rw [e]
    cases ltK b q with
    | true => exact .cons r (ins_pr h t)
    | false => exact .cons h (.cons r t)
theorem sort_pr {K : PySem.W.Frag} {G : Gh} {H : Hp} : ∀ {l : List (List Int × V)} {m : List (List Int × D)}, Paired (fun p q => p.1 = q.1 ∧ Rl0 K G H p.2 q.2) l m → Paired (fun p q => p.1 = q.1 ∧ Rl0 K G H p.2 q.2) (sortL ltK l) (sortL ltK m)
  | _, _, .nil => .nil
  | _, _, .cons r t => ins_pr r (sort_pr t)
theorem pr_rls {K : PySem.W.Frag} {G : Gh} {H : Hp} : ∀ {l : List (List Int × V)} {m : List (List Int × D)}, Paired (fun p q => p.1 = q.1 ∧ Rl0 K G H p.2 q.2) l m → Rls K G H (l.map (·.2)) (m.map (·.2))
  | _, _, .nil => .nil
  | _, _, .cons r t => .cons r.2 (pr_rls t)
theorem sortedD_ok {K : PySem.W.Frag} {G : Gh} {H : Hp} {a : Addr} {vs : List V} {ds es : List D} {Q : VK} (no : ∀ i j r, ds ≠ .int i :: j :: r) (r : Rls K G H vs ds) (e : sortedD ds = some es) (hs : SqL K H a vs ∨ SqT K H a vs)
    (k : ∀ ys p, Rls K G H ys es → H p = none → Q (.ref p) (upd H p (.lst ys))) : rSortN K [.ref a] H Q := by
  refine ⟨a, vs, rfl, hs, ?_⟩
  unfold sortedD at e
  split at e
  · cases e
    cases r
    exact .inl ⟨by simp, fun p hp => k _ p .nil hp⟩
  · cases e
    cases r with
    | cons h r =>
      cases r
      exact .inl ⟨by simp, fun p hp => k _ p (.cons h .nil) hp⟩
  · rename_i ds0 r0 _
    unfold sortN at e
    split at e
    · rename_i ks e1
      split at e
      · rename_i hc
        cases e
        obtain ⟨q1, q2, q3⟩ := keysN_ok r e1
        exact .inr ⟨_, ks, hc.1, q1, hc.2.imp id q3, fun p hp => k _ p (pr_rls (sort_pr q2)) hp⟩
      · cases e
    · cases e
  · rename_i i r0 n0
    cases r0 with
    | nil => exact (n0 rfl).elim
    | cons j r0 => exact absurd rfl (no _ _ _)
  · cases e
theorem rls_nums' {K : PySem.W.Frag} {G : Gh} {H : Hp} : ∀ ns : List Int, Rls K G H (ns.map V.int) (ns.map D.int)
  | [] => .nil
  | n :: r => .cons (.int n) (rls_nums' r)
def rSortZ (K : PySem.W.Frag) : List V → Hp → VK → Prop := fun vs H Q => ∃ a ns, vs = [V.ref a] ∧ (SqL K H a (ns.map V.int) ∨ SqT K H a (ns.map V.int)) ∧ ∀ p, H p = none → Q (.ref p) (upd H p (.lst ((sortL (fun a b : Int => decide (a < b)) ns).map V.int)))
section
variable {prog : Program} {w : World} {A : Around} {E : Value → Shared → Prop} {s : Shared}
open PyProof.Rows SrtO Srt TS in
theorem sortedZ {l : Addr} {vs : List Value} {lt : Value → Value → Bool} (O : SrtO.Swo lt) {R : Value → Shared → Prop} (hz : vs.length ≤ sizeLine)
    (hcol : ∀ (A : Around) (E : Value → Shared → Prop) (R : List Value → Shared → Prop), R vs { s with heap := (s.heap.push (seqObj "list" #[] 0)).update s.heap.objs.size (Obj.mapSeq (· ++ vs.toArray)) } → wpAny (model prog w) A (collect (.ref l)) R E s)
    (hp : ∀ (A : Around) (s' : Shared) (a : Addr), 2 ≤ vs.length → SrtO.SortableO prog w A s' a vs lt)
    (q : ∀ (hh : Heap) (d : Addr), (∀ b o, s.heap.get? b = some o → hh.get? b = some o) → s.heap.objs.size ≤ d → (∃ c, hh.get? d = some (seqObj "list" (sortL lt vs).toArray c)) → R (.ref d) { s with heap := hh }) :
    wpAny (model prog w) A (call (.builtin "sorted") [.ref l]) R E s := by
  refine Calls.call_function_entry kind_sorted plain_sorted entry_sorted (args_sorted1 _) ?_; unfold Builtin.«sorted»
  refine wpAny_bind (m := checkCount "sorted" 1 1 _) (wpAny_pure ?_); refine wpAny_bind (hcol _ _ _ ?_)
  refine wpAny_bind (wpAny_newList ?_ hz)
  generalize hg : (s.heap.push (seqObj "list" #[] 0)).update s.heap.objs.size (Obj.mapSeq (· ++ vs.toArray)) = h1
  have z1 : h1.objs.size = s.heap.objs.size + 1 := by rw [← hg, Heap.size_update, size_push']
  have z2 : (h1.push (seqObj "list" vs.toArray 0)).get? (s.heap.objs.size + 1) = some (seqObj "list" vs.toArray 0) := by rw [← z1]; exact Heap.get?_push_size _ rfl
  show wpAny _ _ _ _ _ { s with heap := h1.push (seqObj "list" vs.toArray 0) }
  rw [z1]
  refine wpAny_bind (wpAny_holding (wpAny_call_entry slot_list_sort ⟨_, z2, rfl⟩ entry_list_sort (SrtO.list_sort_ord O z2 hz (fun h2 => hp _ _ _ h2) fun out hs hb => ⟨_, rfl, ?_⟩) (args_list_sort _)))
  have eo := sortL_uniq O hs hb
  subst eo
  have w1 : sortedAll s.heap vs (sortL lt vs).toArray = sortedHeap (h1.push (seqObj "list" vs.toArray 0)) (s.heap.objs.size + 1) vs (sortL lt vs).toArray := by rw [← hg]; rfl
  refine wpAny_pure ⟨_, rfl, ?_⟩
  rw [← w1]
  exact q _ _ (fun b o e => sortedAll_old e) (Nat.le_succ _) (sortedAll_at s.heap vs _)
end
theorem vals_sortZ : ∀ {ns : List Int} {its : List Value}, Vals (ns.map V.int) its → Vals ((sortL (fun a b : Int => decide (a < b)) ns).map V.int) (sortL SrtO.ltIv its) := by
  have ins : ∀ {i : Int} {v : Value} {ns : List Int} {its : List Value}, RelV (.int i) v → Vals (ns.map V.int) its → Vals ((insL (fun a b : Int => decide (a < b)) i ns).map V.int) (insL SrtO.ltIv v its) := by
    intro i v ns
    induction ns with
    | nil =>
      intro its r h
      cases h
      exact .cons r .nil
    | cons n ns ih =>
      intro its r h
      cases h with
      | @cons _ u _ us ru h =>
        obtain ⟨t, rfl⟩ := r
        obtain ⟨t', rfl⟩ := ru
        show Vals ((if decide (n < i) = true then n :: insL (fun a b : Int => decide (a < b)) i ns else i :: n :: ns).map V.int) (if SrtO.ltIv (.int n t') (.int i t) = true then Value.int n t' :: insL SrtO.ltIv (.int i t) us else .int i t :: .int n t' :: us)
        by_cases z : n < i
        · rw [if_pos (decide_eq_true z), if_pos (show SrtO.ltIv (.int n t') (.int i t) = true from decide_eq_true z)]
          exact .cons ⟨_, rfl⟩ (ih ⟨_, rfl⟩ h)
        · rw [if_neg (by simpa using z), if_neg (show ¬ SrtO.ltIv (.int n t') (.int i t) = true from by show ¬ decide (n < i) = true; simpa using z)]
          exact .cons ⟨_, rfl⟩ (.cons ⟨_, rfl⟩ h)
  intro ns
  induction ns with
  | nil => intro its h; cases h; exact .nil
  | cons n ns ih => intro its h; cases h with | cons r h => exact ins r (ih h)
open PyProof.Rows in
theorem cr_sortZ : CallR X (.builtin "sorted") (rSortZ X.K) := by
  intro pins s σ H vs us Q I r h
  obtain ⟨a, ns, rfl, hs, q⟩ := h
  obtain ⟨u, rfl, ru⟩ := vals1 r
  obtain rfl : u = Value.ref a := ru
  have go : ∀ its : List Value, Vals (ns.map V.int) its → its.length ≤ sizeLine → (∀ (A : Around) (E : Value → Shared → Prop) (R : List Value → Shared → Prop), R its { s with heap := (s.heap.push (seqObj "list" #[] 0)).update s.heap.objs.size (Obj.mapSeq (· ++ its.toArray)) } → wpAny (model X.prog X.w) A (collect (.ref a)) R E s) → wpAny (model X.prog X.w) X.A (call (.builtin "sorted") [.ref a]) (EP X pins σ Q) X.xe s := fun its rv hz hcol => by
    have hi := rv.ints
    refine sortedZ SrtO.swo_int hz hcol (fun A s' b h2 => SrtO.ints_sortable hi h2) fun hh d kp hd ⟨c, hc⟩ => ?_
    have rs := vals_sortZ rv
    exact ⟨.ref d, _, I.laid (t' := s.toks) kp hd (show ObjOk X.prog X.w _ _ _ (.lst _) from ⟨by rw [rs.length]; show (sortL SrtO.ltIv its).length ≤ _; rw [(sortL_perm its).length_eq]; exact hz, _, c, rs, hc⟩), rfl, q d (I.hok.fresh hd)⟩
  rcases hs with hs | hs
  · obtain ⟨its, rv, hl, hz⟩ := I.list hs
    exact go its rv (by rw [← rv.length]; exact hz) fun A E R q => PyProof.Rows.collect_list hl.isList q (by rw [← rv.length]; exact hz)
  · obtain ⟨its, rv, hl, hz⟩ := I.tuple hs
    exact go its rv (by rw [← rv.length]; exact hz) fun A E R q => collT hl (by rw [← rv.length]; exact hz) q
theorem cr_sortA : CallR X (.builtin "sorted") (fun vs H Q => rSortN X.K vs H Q ∨ rSortZ X.K vs H Q) := fun pins s σ H vs us Q I r h => h.elim (cr_sortN pins s σ H vs us Q I r) (cr_sortZ pins s σ H vs us Q I r)
theorem s_sorted {a : Expr} {p pos : Pos} {m : Env → M D} (g1 : Gl X "sorted") (m1 : X.mg "sorted" = none) (ha : PE X a (tE X.K W m)) (hs : starEach [a] X.env = [(false, eval a X.env)]) :
    PE X (.Call (.Name "sorted" p) [a] [] pos) (tE X.K W fun ρ => M.bnd (m ρ) (biM .sorted)) := by
  refine PE.imp (pe_callB cr_sortA g1 m1 (by decide +kernel) (pa_cons ha pa_nil hs) (by decide) (by decide) hs) fun σ H Q ⟨G, ρ, S, Hin, A, h⟩ => ?_
  refine tM_bnd rVal.mono A h fun v d G1 H1 S1 x1 A1 r1 h1 => ?_
  rcases biM_ok .sorted d S1 with e | ⟨d', e⟩
  · rw [e] at h1; exact h1.elim
  · rw [e] at h1
    simp only [biM] at e
    split at e
    · rename_i ys e1
      cases e
      obtain ⟨ds, e2, e3⟩ := Option.bind_eq_some_iff.mp e1
      obtain ⟨b, xs, rfl, hb, rb⟩ := r1.1.toSeq e2
      by_cases z : ∃ i j r, ds = .int i :: j :: r
      · obtain ⟨i, j, r, rfl⟩ := z
        have e3 : (match D.ints? (j :: r) with | some ns => some ((sortL (fun a b => decide (a < b)) (i :: ns)).map D.int) | none => none) = some ys := e3
        cases e4 : D.ints? (j :: r) with
        | none => rw [e4] at e3; cases e3
        | some ns =>
          rw [e4] at e3
          cases e3
          have e5 : D.ints? (.int i :: j :: r) = some (i :: ns) := by show (D.ints? (j :: r)).map (i :: ·) = _; rw [e4]; rfl
          obtain rfl := rb.ints e5
          exact .inr ⟨b, i :: ns, rfl, hb, fun p hp => finL h1 (rls_nums' _) A1.st hp⟩
      · exact .inl (sortedD_ok (fun i j r y => z ⟨i, j, r, y⟩) rb e3 hb fun zs p rz hp => finL h1 rz A1.st hp)
    · cases e
theorem s_par3 {st : Stmt} {i j l : Nat} {m1 m2 m3 : Env → M D} (hps : PS X st (tPar3 i j l (tCons (tE X.K W m1) (tCons (tE X.K W m2) (tCons (tE X.K W m3) tNil))))) :
    PS X st (tS X.K W fun ρ => tryM (m1 ρ) ρ fun x => tryM (m2 ρ) ρ fun y => tryM (m3 ρ) ρ fun z => seqM (setI ρ i x) fun ρ' => seqM (setI ρ' j y) fun ρ2 => setI ρ2 l z) := by
  refine PS.imp hps fun D σ H ⟨G, ρ, S, Hin, A, h⟩ => ?_
  refine tS_try A h fun v d G1 H1 S1 x1 A1 r1 h1 => ?_
  refine tS_try A1 h1 fun w e G2 H2 S2 x2 A2 r2 h2 => ?_
  refine tS_try A2 h2 fun u f G3 H3 S3 x3 A3 r3 h3 => ?_
  refine ⟨v, w, u, rfl, ?_⟩
  have y1 : RlF X.K H G3 H3 v d := ⟨(r1.1.ext x2).ext x3, r1.2⟩
  have y2 : RlF X.K H1 G3 H3 w e := ⟨r2.1.ext x3, r2.2⟩
  have h3 : PostS X.K W Hin G3 H3 (seqM (setI ρ i d) (fun ρ' => seqM (setI ρ' j e) fun ρ2 => setI ρ2 l f) S3) D := h3
  refine set_ok (i := i) (P := fun σ' => D.nx ((σ'.set j (some w)).set l (some u)) H3) (D := D) A3 y1 A.env.hin A.env.ownIn (fun ρ1 q1 B1 => ?_) fun z => by simp only [seqM, z] at h3; exact h3
  have h4 : PostS X.K W Hin G3 H3 (seqM (setI ρ1 j e) (fun ρ2 => setI ρ2 l f) S3) D := by
    have e0 : seqM (setI ρ i d) (fun ρ' => seqM (setI ρ' j e) fun ρ2 => setI ρ2 l f) S3 = seqM (setI ρ1 j e) (fun ρ2 => setI ρ2 l f) S3 := by rw [q1]; rfl
    rw [e0] at h3
    exact h3
  have o1 : OwnIn H1 (σ.set i (some v)) ρ1 := own_step A.env.len A.env.ownIn x1.trk r1.1 q1
  refine set_ok (i := j) (P := fun σ' => D.nx (σ'.set l (some u)) H3) (D := D) B1 y2 (fun a n => x1.trk a (A.env.hin a n)) o1 (fun ρ2 q2 B2 => ?_) fun z => by simp only [seqM, z] at h4; exact h4
  have h5 : PostS X.K W Hin G3 H3 (setI ρ2 l f S3) D := by
    have e0 : seqM (setI ρ1 j e) (fun ρ2 => setI ρ2 l f) S3 = setI ρ2 l f S3 := by rw [q2]; rfl
    rw [e0] at h4
    exact h4
  have o2 : OwnIn H2 ((σ.set i (some v)).set j (some w)) ρ2 := own_step B1.env.len o1 x2.trk r2.1 q2
  refine set_ok (i := l) (P := fun σ' => D.nx σ' H3) (D := D) B2 r3 (fun a n => x2.trk a (x1.trk a (A.env.hin a n))) o2 (fun ρ3 q3 B3 => ?_) fun z => by rw [z] at h5; exact h5
  rw [q3] at h5
  exact h5.nx B3
theorem s_ext {st : Stmt} {i : Nat} {m : Env → M D} (hps : PS X st (tDrop (tBM X.K "list" rExtend (tVar i) (tCons (tE X.K W m) tNil)))) :
    PS X st (tS X.K W fun ρ => match WB.ownAt ρ i with
      | some xs => tryM (m ρ) ρ fun d => match d.list? with
        | some ys => if xs.length + ys.length ≤ sizeLine then M.ret (.nx (ρ.set i (some (.own (xs ++ ys))))) else M.bad
        | none => M.bad
      | none => M.bad) := by
  refine PS.imp hps fun D σ H ⟨G, ρ, S, Hin, A, h⟩ => ?_
  cases e : WB.ownAt ρ i with
  | none => simp only [e] at h; exact h.elim
  | some ds =>
    simp only [e] at h
    obtain ⟨a, xs, h1, h2, h3, h4, h5, h6⟩ := A.own_ e
    refine ⟨_, h1, .inl ⟨rfl, _, SqL.of h2⟩, ?_⟩
    refine tS_try A h fun v d G1 H1 S1 x1 A1 r1 q1 => ?_
    cases ed : d.list? with
    | none => simp only [ed] at q1; exact q1.elim
    | some es =>
      simp only [ed] at q1
      by_cases hz : ds.length + es.length ≤ sizeLine
      · rw [if_pos hz] at q1
        obtain ⟨b, ys, g1, g2, g3, g4, g5, g6⟩ := A1.own_ e
        rw [h1] at g1
        cases g1
        obtain ⟨b, zs, rfl, hb, rb⟩ := r1.1.toList ed
        refine ⟨a, b, ys, zs, rfl, rfl, g2, hb, by rw [g6.length, rb.length]; exact hz, ?_⟩
        exact q1 σ G1 _ (Ext.ownUpd g2 g3 g5) (A1.ownSet e h1 g2 g3 g4 g5 (g6.append rb))
      · rw [if_neg hz] at q1
        exact q1.elim
theorem Rls.erase {K : PySem.W.Frag} {G : Gh} {H : Hp} : ∀ {vs : List V} {ds : List D} (i : Nat), Rls K G H vs ds → Rls K G H (vs.eraseIdx i) (ds.eraseIdx i)
  | _, _, _, .nil => .nil
  | _, _, 0, .cons _ r => r
  | _, _, i + 1, .cons q r => .cons q (Rls.erase i r)
theorem popAt_ok {ys zs : List D} {d y : D} (h : popAt ys d = some (y, zs)) : ∃ n k, d = .int n ∧ -(2 ^ 63) ≤ n ∧ n < 2 ^ 63 ∧ seqIndex? n ys.length = some k ∧ ys[k]? = some y ∧ zs = ys.eraseIdx k := by
  cases d <;> simp only [popAt] at h <;> try (cases h; done)
  rename_i n
  split at h
  · rename_i hn
    split at h
    · rename_i k e1
      split at h
      · rename_i y' e2
        cases h
        have hb : -16777216 ≤ n ∧ n ≤ 16777216 := of_decide_eq_true hn
        exact ⟨n, k, rfl, by omega, by omega, e1, e2, rfl⟩
      · cases h
    · cases h
  · cases h
theorem ownAt_set {ρ : Env} {i j : Nat} {xs : List D} {o : Option D} (hij : i ≠ j) (h : WB.ownAt ρ i = some xs) : WB.ownAt (ρ.set j o) i = some xs := by
  unfold WB.ownAt at h ⊢
  rw [List.getElem?_set_ne (Ne.symm hij)]
  exact h
theorem s_appPop {st : Stmt} {i j : Nat} {m : Env → M D} (hij : i ≠ j) (hps : PS X st (tDrop (tBM X.K "list" rAppend (tVar i) (tCons (tBM X.K "list" rPopAt (tVar j) (tCons (tE X.K W m) tNil)) tNil)))) :
    PS X st (tS X.K W fun ρ => match WB.ownAt ρ i, WB.ownAt ρ j with
      | some xs, some ys => tryM (m ρ) ρ fun d => match popAt ys d with
        | some (y, zs) => if xs.length < sizeLine then M.ret (.nx ((ρ.set j (some (.own zs))).set i (some (.own (xs ++ [y]))))) else M.bad
        | none => M.bad
      | _, _ => M.bad) := by
  refine PS.imp hps fun D σ H ⟨G, ρ, S, Hin, A, h⟩ => ?_
  cases e : WB.ownAt ρ i with
  | none => simp only [e] at h; exact h.elim
  | some ds =>
    cases ej : WB.ownAt ρ j with
    | none => simp only [e, ej] at h; exact h.elim
    | some es =>
      simp only [e, ej] at h
      obtain ⟨a, xs, h1, h2, h3, h4, h5, h6⟩ := A.own_ e
      obtain ⟨b, ys, k1, k2, k3, k4, k5, k6⟩ := A.own_ ej
      refine ⟨_, h1, .inl ⟨rfl, _, SqL.of h2⟩, ?_⟩
      refine ⟨_, k1, .inl ⟨rfl, _, SqL.of k2⟩, ?_⟩
      refine tS_try A h fun v d G1 H1 S1 x1 A1 r1 q1 => ?_
      cases ed : popAt es d with
      | none => simp only [ed] at q1; exact q1.elim
      | some p =>
        obtain ⟨y, zs⟩ := p
        simp only [ed] at q1
        by_cases hz : ds.length < sizeLine
        · rw [if_pos hz] at q1
          obtain ⟨n, c, rfl, n1, n2, n3, n4, rfl⟩ := popAt_ok ed
          obtain ⟨b', ys', g1, g2, g3, g4, g5, g6⟩ := A1.own_ ej
          rw [k1] at g1
          cases g1
          have rv : v = .int n := by
            cases r1.1 with
            | base q => cases q; rfl
          subst rv
          obtain ⟨w, w1, w2⟩ := g6.get n4
          refine ⟨b, ys', n, c, w, rfl, rfl, g2, n1, n2, by rw [g6.length]; exact n3, w1, ?_⟩
          have A2 := A1.ownSet ej k1 g2 g3 g4 g5 (g6.erase c)
          have ei := ownAt_set (o := some (.own (es.eraseIdx c))) hij e
          obtain ⟨a', xs', p1, p2, p3, p4, p5, p6⟩ := A2.own_ ei
          rw [h1] at p1
          cases p1
          have ex : Ext Hin G1 H1 G1 (upd H1 b (.lst (ys'.eraseIdx c))) := Ext.ownUpd g2 g3 g5
          refine ⟨a, xs', w, rfl, rfl, p2, by rw [p6.length]; exact hz, ?_⟩
          exact q1 σ G1 _ (ex.trans (Ext.ownUpd p2 p3 p5)) (A2.ownSet ei h1 p2 p3 p4 p5 (p6.append (.cons (w2.ext ex) .nil)))
        · rw [if_neg hz] at q1
          exact q1.elim
end
end WB
namespace WB
open PySem L2 PyProof.Rows

section
variable {X : Cx} {W : WX}
theorem rgV_rl {K : PySem.W.Frag} {G : Gh} {H : Hp} (j : Int) : Rls K G H (rgV 0 j) (rngD 0 j) := by
  have e1 : rgV 0 j = ((List.range (j - 0).toNat).map fun (i : Nat) => (0 : Int) + (i : Int)).map V.int := by unfold rgV; rw [List.map_map]; rfl
  have e2 : rngD 0 j = ((List.range (j - 0).toNat).map fun (i : Nat) => (0 : Int) + (i : Int)).map D.int := by unfold rngD; rw [List.map_map]; rfl
  rw [e1, e2]
  exact rls_nums' _
theorem rngOk_iff {j : Int} (h : rngOk j = true) : RgOk 0 j := by
  have h := of_decide_eq_true h
  exact ⟨by omega, by omega, h.1, h.2.1, by rw [Int.sub_zero]; exact h.2.2⟩
theorem s_lrng {a : Expr} {p p2 pos pos2 : Pos} {m : Env → M D} (hc : X.calm = true) (g1 : Gl X "list") (m1 : X.mg "list" = none) (g2 : Gl X "range") (m2 : X.mg "range" = none) (ha : PE X a (tE X.K W m)) (hs : starEach [a] X.env = (false, eval a X.env) :: starEach [] X.env) :
    PE X (.Call (.Name "list" p) [.Call (.Name "range" p2) [a] [] pos2] [] pos) (tE X.K W fun ρ => M.bnd (m ρ) (rngM .own)) := by
  refine PE.imp (pe_listRg hc g1 m1 (prg_1 g2 m2 ha hs)) fun σ H Q ⟨G, ρ, S, Hin, A, h⟩ => ?_
  refine tM_bnd rVal.mono A h fun v d G1 H1 S1 x1 A1 r1 h1 => ?_
  cases d with
  | int j =>
    have h1 : Post X.K W σ (rVal X.K) G1 H1 ((if rngOk j then M.ret (.own (rngD 0 j)) else M.bad : M D) S1) Q := h1
    by_cases q : rngOk j = true
    · rw [if_pos q] at h1
      have h1 : ∀ v G' H', Ext H1 G1 H1 G' H' → RlF X.K H1 G' H' v (.own (rngD 0 j)) → RelS X.K G' H' S1 → Q v H' := h1
      exact ⟨j, r1.1.toInt, rngOk_iff q, fun b hb => finL h1 (rgV_rl j) A1.st hb⟩
    · rw [if_neg q] at h1
      exact h1.elim
  | _ => exact h1.elim
theorem s_trng {a : Expr} {p p2 pos pos2 : Pos} {m : Env → M D} (hc : X.calm = true) (g1 : Gl X "tuple") (m1 : X.mg "tuple" = none) (g2 : Gl X "range") (m2 : X.mg "range" = none) (ha : PE X a (tE X.K W m)) (hs : starEach [a] X.env = (false, eval a X.env) :: starEach [] X.env) :
    PE X (.Call (.Name "tuple" p) [.Call (.Name "range" p2) [a] [] pos2] [] pos) (tE X.K W fun ρ => M.bnd (m ρ) (rngM .tup)) := by
  refine PE.imp (pe_tupRg hc g1 m1 (prg_1 g2 m2 ha hs)) fun σ H Q ⟨G, ρ, S, Hin, A, h⟩ => ?_
  refine tM_bnd rVal.mono A h fun v d G1 H1 S1 x1 A1 r1 h1 => ?_
  cases d with
  | int j =>
    have h1 : Post X.K W σ (rVal X.K) G1 H1 ((if rngOk j then M.ret (.tup (rngD 0 j)) else M.bad : M D) S1) Q := h1
    by_cases q : rngOk j = true
    · rw [if_pos q] at h1
      have h1 : ∀ v G' H', Ext H1 G1 H1 G' H' → RlF X.K H1 G' H' v (.tup (rngD 0 j)) → RelS X.K G' H' S1 → Q v H' := h1
      exact ⟨j, r1.1.toInt, rngOk_iff q, fun b hb => finT h1 (rgV_rl j) A1.st hb⟩
    · rw [if_neg q] at h1
      exact h1.elim
  | _ => exact h1.elim
end
end WB
namespace WB
open PySem L2 PyProof.Rows

section
variable {X : Cx} {W : WX}
theorem mnx_fin {K : PySem.W.Frag} {σ : L2.St} {G : Gh} {H : Hp} {S : Store} {Q : V → Hp → Prop} {f : Int → Int → Int} {v w : V} {d e : D} (r1 : Rl K G H v d) (r2 : Rl K G H w e) (R : RelS K G H S) (h : Post K W σ (rVal K) G H (mnxM f d e S) Q) : ∃ i j, [v, w] = [V.int i, .int j] ∧ Q (.int (f i j)) H := by
  cases d <;> cases e <;> first | exact h.elim | skip
  rename_i i j
  exact ⟨i, j, by rw [r1.toInt, r2.toInt], Post.ret (d := .int (f i j)) h (RlF.base (.int _)) R⟩
theorem s_mnx {a b : Expr} {p pos : Pos} {m1 m2 : Env → M D} {nm : Str} {f : Int → Int → Int} (hc : ∀ ta tb, PE X a ta → PE X b tb → PE X (.Call (.Name nm p) [a, b] [] pos) (tCB (fun xs H Q => ∃ i j, xs = [.int i, .int j] ∧ Q (.int (f i j)) H) (tCons ta (tCons tb tNil))))
    (ha : PE X a (tE X.K W m1)) (hb : PE X b (tE X.K W m2)) : PE X (.Call (.Name nm p) [a, b] [] pos) (tE X.K W fun ρ => M.bnd (m1 ρ) fun x => M.bnd (m2 ρ) fun y => mnxM f x y) := by
  refine PE.imp (hc _ _ ha hb) fun σ H Q ⟨G, ρ, S, Hin, A, h⟩ => ?_
  refine tM_bnd rVal.mono A h fun v d G1 H1 S1 x1 A1 r1 h1 => ?_
  refine tM_bnd rVal.mono A1 h1 fun w e G2 H2 S2 x2 A2 r2 h2 => ?_
  exact mnx_fin (r1.1.ext x2) r2.1 A2.st h2
theorem s_min {a b : Expr} {p pos : Pos} {m1 m2 : Env → M D} (hc : X.calm = true) (g1 : Gl X "min") (n1 : X.mg "min" = none) (ha : PE X a (tE X.K W m1)) (hb : PE X b (tE X.K W m2)) (hs : starEach [a, b] X.env = (false, eval a X.env) :: starEach [b] X.env) (hs2 : starEach [b] X.env = (false, eval b X.env) :: starEach [] X.env)
    (hp : (backTo pos (starEach [b] X.env)).any (·.1) = false) :
    PE X (.Call (.Name "min" p) [a, b] [] pos) (tE X.K W fun ρ => M.bnd (m1 ρ) fun x => M.bnd (m2 ρ) fun y => mnxM (fun i j => if j < i then j else i) x y) :=
  s_mnx (fun ta tb ha hb => pe_callB (call_min2 hc) g1 n1 (by decide +kernel) (pa_cons ha (pa_cons hb pa_nil hs2) hs) (by decide) (by decide) hs hp) ha hb
theorem s_max {a b : Expr} {p pos : Pos} {m1 m2 : Env → M D} (hc : X.calm = true) (g1 : Gl X "max") (n1 : X.mg "max" = none) (ha : PE X a (tE X.K W m1)) (hb : PE X b (tE X.K W m2)) (hs : starEach [a, b] X.env = (false, eval a X.env) :: starEach [b] X.env) (hs2 : starEach [b] X.env = (false, eval b X.env) :: starEach [] X.env)
    (hp : (backTo pos (starEach [b] X.env)).any (·.1) = false) :
    PE X (.Call (.Name "max" p) [a, b] [] pos) (tE X.K W fun ρ => M.bnd (m1 ρ) fun x => M.bnd (m2 ρ) fun y => mnxM (fun i j => if i < j then j else i) x y) :=
  s_mnx (fun ta tb ha hb => pe_callB (call_max2 hc) g1 n1 (by decide +kernel) (pa_cons ha (pa_cons hb pa_nil hs2) hs) (by decide) (by decide) hs hp) ha hb

theorem kd_empty {P : Program} {w : World} {H : Hp} (h : Heap) (hb : sysModules < h.objs.size) : ObjOk P w H (h.push { cls := .type "dict", data := .dict #[] }) h.objs.size (KDo h.objs.size { cls := .type "dict", data := .dict #[] } []) := by
  have e := Heap.get?_push_size h (o := { cls := .type "dict", data := .dict #[] }) rfl
  refine ⟨⟨beq_eq_false_iff_ne.mpr (Ne.symm (Nat.ne_of_lt hb)), e, ⟨rfl, rfl, rfl⟩, #[], 0, rfl, fun _ => rfl⟩, ⟨_, e⟩, ?_⟩
  rintro h1 h2 ⟨z, q, r⟩ k
  exact ⟨z, k _ q, r⟩
theorem s_kdnew {pos : Pos} : PE X (.Dict [] [] pos) (tE X.K W fun _ => M.ret (.okd [] [])) := by
  refine ⟨fun pins s σ H Q I q => ?_⟩
  obtain ⟨G, ρ, S, Hin, A, h⟩ := q
  have hp : H s.heap.objs.size = none := I.hok.fresh (Nat.le_refl _)
  refine wpAny_Dict_empty ⟨.ref s.heap.objs.size, _, I.laid (a := s.heap.objs.size) (o := KDo s.heap.objs.size { cls := .type "dict", data := .dict #[] } []) (t' := s.toks) (fun _ _ q => Heap.get?_push_of_some _ q) (Nat.le_refl _) (kd_empty s.heap I.big), rfl, ?_⟩
  refine h (.ref s.heap.objs.size) G _ (Ext.new A.st hp) ⟨?_, fun _ => ⟨_, rfl, hp⟩⟩ (A.st.new hp)
  exact .okd upd_same (fun z => A.st.zt _ z hp) (fun z => by obtain ⟨o, e, _⟩ := A.st.it _ z; rw [hp] at e; cases e) ⟨.nil, List.nodup_nil, Nat.zero_le _⟩ .nil .nil
end
abbrev Ent := NestedKey × Addr × Value
def putR (k : NestedKey) (b : Addr) (u : Value) : List Ent → List Ent
  | [] => [(k, b, u)]
  | (j, c, y) :: r => if j = k then (j, c, u) :: r else (j, c, y) :: putR k b u r
theorem putAt_id {k : NestedKey} {u : Value} : ∀ {r : List Ent}, k ∉ r.map (·.1) → r.map (putAt k u) = r
  | [], _ => rfl
  | (j, c, y) :: r, h => by
    simp only [List.map_cons, List.mem_cons, not_or] at h
    rw [List.map_cons, putAt_id h.2]
    simp only [putAt, if_neg (Ne.symm h.1)]
theorem putR_stored {k : NestedKey} {b : Addr} {u : Value} : ∀ {xs : List Ent}, (xs.map (·.1)).Nodup → storedH xs k b u = putR k b u xs
  | [], _ => rfl
  | (j, c, y) :: r, nd => by
    rw [List.map_cons, List.nodup_cons] at nd
    unfold storedH
    rw [atKey_cons]
    by_cases e : j = k
    · subst e
      simp only [if_true, Option.isSome_some, List.map_cons, putAt_id nd.1]
      simp only [putR, putAt, if_true]
    · rw [if_neg e]
      simp only [putR, if_neg e]
      rw [← putR_stored (b := b) nd.2]
      unfold storedH
      by_cases z : (atKey r k).isSome = true
      · rw [if_pos z, if_pos z, List.map_cons]
        simp only [putAt, if_neg e]
      · rw [if_neg z, if_neg z]
        rfl
theorem putR_keys {k : NestedKey} {b : Addr} {u : Value} : ∀ {xs : List Ent} {j : NestedKey}, j ∈ (putR k b u xs).map (·.1) → j = k ∨ j ∈ xs.map (·.1)
  | [], j, h => by simp [putR] at h; exact .inl h
  | (i, c, y) :: r, j, h => by
    by_cases e : i = k
    · simp only [putR, if_pos e] at h
      exact .inr h
    · simp only [putR, if_neg e, List.map_cons, List.mem_cons] at h
      rcases h with h | h
      · exact .inr (by simp [h])
      · rcases putR_keys h with z | z
        · exact .inl z
        · exact .inr (List.mem_cons_of_mem _ z)
theorem putR_nodup {k : NestedKey} {b : Addr} {u : Value} : ∀ {xs : List Ent}, (xs.map (·.1)).Nodup → ((putR k b u xs).map (·.1)).Nodup
  | [], _ => by simp [putR]
  | (i, c, y) :: r, nd => by
    rw [List.map_cons, List.nodup_cons] at nd
    by_cases e : i = k
    · simp only [putR, if_pos e, List.map_cons, List.nodup_cons]
      exact nd
    · simp only [putR, if_neg e, List.map_cons, List.nodup_cons]
      refine ⟨fun z => ?_, putR_nodup nd.2⟩
      rcases putR_keys z with q | q
      · exact e q
      · exact nd.1 q
section
variable {K : PySem.W.Frag} {G : Gh} {H : Hp}
theorem put_ent {k : NestedKey} {b : Addr} {u : Value} {x v : D} {w : V} (hk : x.key = some k) (rx : Rl0 K G H (.ref b) x) (ru : RelV w u) (rw' : Rl0 K G H w v) : ∀ {xs : List Ent} {ks vs : List D} {kv xv : List V}, EntX xs ks kv xv → Rls K G H kv ks → Rls K G H xv vs →
    ∃ kv' xv', EntX (putR k b u xs) (kdPut x k v ks vs).1 kv' xv' ∧ Rls K G H kv' (kdPut x k v ks vs).1 ∧ Rls K G H xv' (kdPut x k v ks vs).2
  | _, _, _, _, _, .nil, .nil, .nil => ⟨[.ref b], [w], .cons hk ru .nil, .cons rx .nil, .cons rw' .nil⟩
  | _, _, _, _, _, .cons (k := j) (b := c) (u := y) (d := d) (x := z) h1 h2 h3, .cons q1 q2, .cons t1 t2 => by
    simp only [kdPut, h1, Option.some.injEq]
    by_cases e : j = k
    · rw [if_pos e]
      simp only [putR, if_pos e]
      exact ⟨_, _, .cons h1 ru h3, .cons q1 q2, .cons rw' t2⟩
    · rw [if_neg e]
      simp only [putR, if_neg e]
      obtain ⟨kv', xv', a1, a2, a3⟩ := put_ent hk rx ru rw' h3 q2 t2
      exact ⟨_, _, .cons h1 h2 a1, .cons q1 a2, .cons t1 a3⟩
/-- a list of pairs, keys ahead -/
inductive PrD (K : PySem.W.Frag) (G : Gh) (H : Hp) : List V → List D → List (NestedKey × Addr × V) → Prop
  | nil : PrD K G H [] [] []
  | cons {t b : Addr} {k : NestedKey} {x v : D} {w : V} {zs : List V} {ds : List D} {ps : List (NestedKey × Addr × V)} : SqT K H t [.ref b, w] → Rl0 K G H (.ref b) x → x.key = some k → Rl0 K G H w v → PrD K G H zs ds ps → PrD K G H (.ref t :: zs) (.tup [x, v] :: ds) ((k, b, w) :: ps)
theorem prD_of : ∀ {zs : List V} {ds : List D} {p q : List D × List D}, Rls K G H zs ds → kdAdd ds p = some q → ∃ ps, PrD K G H zs ds ps
  | _, _, p, q, .nil, _ => ⟨[], .nil⟩
  | _, _, p, q, .cons (d := d) r1 r2, h => by
    cases r1 with
    | @tup a xs es h1 h2 =>
      cases h2 with
      | nil => simp [kdAdd] at h
      | cons s1 s2 =>
        cases s2 with
        | nil => simp [kdAdd] at h
        | cons s2 s3 =>
          cases s3 with
          | cons _ _ => simp [kdAdd] at h
          | nil =>
            rename_i v1 d1 v2 d2
            simp only [kdAdd] at h
            cases e : d1.key with
            | none => rw [e] at h; cases h
            | some k =>
              rw [e] at h
              obtain ⟨ps, hp⟩ := prD_of r2 h
              obtain ⟨_, b, rfl⟩ := (Rl.base s1).toKey e
              exact ⟨_, .cons h1 s1 e s2 hp⟩
    | _ => simp [kdAdd] at h
theorem PrD.len {zs : List V} {ds : List D} {ps : List (NestedKey × Addr × V)} (h : PrD K G H zs ds ps) : ps.length = ds.length ∧ zs.length = ds.length := by
  induction h with
  | nil => exact ⟨rfl, rfl⟩
  | cons _ _ _ _ _ ih => exact ⟨by simp [ih.1], by simp [ih.2]⟩
def PvR : List (NestedKey × Addr × V) → List Ent → Prop := Paired fun p q => p.1 = q.1 ∧ p.2.1 = q.2.1 ∧ RelV p.2.2 q.2.2
theorem add_ent : ∀ {zs : List V} {ds : List D} {ps : List (NestedKey × Addr × V)} {es : List Ent} {xs : List Ent} {kv xv : List V} {p q : List D × List D}, PrD K G H zs ds ps → PvR ps es → (xs.map (·.1)).Nodup → EntX xs p.1 kv xv → Rls K G H kv p.1 → Rls K G H xv p.2 → kdAdd ds p = some q →
    ∃ kv' xv', EntX (storedAllH xs es) q.1 kv' xv' ∧ Rls K G H kv' q.1 ∧ Rls K G H xv' q.2
  | _, _, _, _, xs, kv, xv, p, q, .nil, .nil, nd, n, r1, r2, h => by
    cases h
    exact ⟨kv, xv, n, r1, r2⟩
  | _, _, _, _, xs, kv, xv, p, q, .cons (k := k) (b := b) (x := x) (v := v) h1 h2 h3 h4 h5, .cons (b := (k2, b2, u)) pr prs, nd, n, r1, r2, h => by
    obtain ⟨e1, e2, e3⟩ := pr
    simp only at e1 e2 e3
    subst e1 e2
    simp only [kdAdd, h3] at h
    obtain ⟨kv1, xv1, a1, a2, a3⟩ := put_ent h3 h2 e3 h4 n r1 r2
    show ∃ kv' xv', EntX (storedAllH (storedH xs k b u) _) _ _ _ ∧ _
    rw [putR_stored nd]
    exact add_ent h5 prs (putR_nodup nd) a1 a2 a3 h
end
section
variable {X : Cx} {W : WX} {pins : List (Addr × Obj)} {σ : L2.St} {G : Gh} {H : Hp} {s : Shared}
/-- the pairs as they stand -/
theorem prD_vals (I : Inv X pins σ H s) : ∀ {zs : List V} {ds : List D} {ps : List (NestedKey × Addr × V)} {us : List Value}, PrD X.K G H zs ds ps → Vals zs us → ∃ es : List Ent, PvR ps es ∧
    ∀ (j : Nat) (e : Ent), es[j]? = some e → ∃ t, us[j]? = some (.ref t) ∧ IsTup s.heap t #[.ref e.2.1, e.2.2] ∧ (nestedKind X.prog X.w).is s.heap e.1 e.2.1
  | _, _, _, _, .nil, .nil => ⟨[], .nil, fun j e h => by simp at h⟩
  | _, _, _, _, .cons (t := t) (b := b) (k := k) (w := w) h1 h2 h3 h4 h5, .cons r1 r2 => by
    obtain ⟨es, p1, p2⟩ := prD_vals I h5 r2
    obtain ⟨its, rv, ht, _⟩ := I.tuple h1
    cases rv with
    | cons q1 q2 =>
      cases q2 with
      | cons q2 q3 =>
        cases q3
        rename_i u1 u2
        obtain rfl : u1 = Value.ref b := q1
        refine ⟨(k, b, u2) :: es, .cons ⟨rfl, rfl, q2⟩ p1, fun j e h => ?_⟩
        cases j with
        | zero =>
          simp only [List.getElem?_cons_zero, Option.some.injEq] at h
          subst h
          refine ⟨t, ?_, ht, key_is I h2 h3⟩
          rw [List.getElem?_cons_zero]
          exact congrArg some r1
        | succ j =>
          rw [List.getElem?_cons_succ] at h
          obtain ⟨t', a1, a2⟩ := p2 j e h
          exact ⟨t', by rw [List.getElem?_cons_succ]; exact a1, a2⟩
def refAt (us : List Value) (j : Nat) : Addr := match us[j]? with
  | some (.ref t) => t
  | _ => 0
def rUpdK (K : PySem.W.Frag) : V → List V → Hp → VK → Prop := fun x ys H Q => ∃ G d o xs ks vs kv xv l zs ds q, x = .ref d ∧ ys = [.ref l] ∧ H d = some (KDo d o xs) ∧ Ents xs ks kv xv ∧ Rls K G H kv ks ∧ Rls K G H xv vs ∧ H l = some (.lst zs) ∧ Rls K G H zs ds ∧ kdAdd ds (ks, vs) = some q ∧ ks.length + ds.length ≤ sizeLine ∧
  ∀ o' xs' kv' xv', Ents xs' q.1 kv' xv' → Rls K G H kv' q.1 → Rls K G H xv' q.2 → Q .non (upd H d (KDo d o' xs'))
theorem mt_updK (hc : X.calm = true) (hu : X.A.units + 65 < cLine) : MtR X "dict.update" (rUpdK X.K) := by
  intro pins s σ H x ys v us Q I rx rv h
  obtain ⟨G, d, o0, xs, ks, vs, kv, xv, l, zs, ds, q, rfl, rfl, hd, n, r1, r2, hl, rz, ha, hz, k⟩ := h
  obtain rfl : v = Value.ref d := rx
  obtain ⟨u, rfl, ru⟩ := vals1 rv
  obtain rfl : u = Value.ref l := ru
  obtain ⟨h0, hm⟩ := kd_there I hd n r1
  obtain ⟨zl, its, m, rits, hlen, hlo⟩ := I.lstM hl
  obtain ⟨ps, hps⟩ := prD_of rz ha
  obtain ⟨es, hpv, hes⟩ := prD_vals I hps rits
  have ln : es.length = ps.length := (Paired.length hpv).symm
  obtain ⟨od, eds, epd, hdo, hdx, hdd, _⟩ := id hm
  have ndl : d ≠ l := fun e => by
    rw [e, hlo] at hdo
    cases hdo
    cases hdd
  have itl : its.length = es.length := by rw [← hlen, ln, hps.len.1, hps.len.2]
  let pv : List (Value × Value) := es.map fun e => (.ref e.2.1, e.2.2)
  have pvl : pv.length = es.length := List.length_map _
  have pvAt : ∀ (j : Nat) a b, pv[j]? = some (a, b) → ∃ e, es[j]? = some e ∧ a = .ref e.2.1 ∧ b = e.2.2 := fun j a b z => by
    have z' : (es.map fun e : Ent => ((.ref e.2.1 : Value), e.2.2))[j]? = some (a, b) := z
    rw [List.getElem?_map] at z'
    cases e : es[j]? with
    | none => rw [e] at z'; cases z'
    | some w => rw [e] at z'; cases z'; exact ⟨w, rfl, rfl, rfl⟩
  have refs : ∀ (j : Nat) (e : Ent), es[j]? = some e → its[j]? = some (.ref (refAt its j)) ∧ IsTup s.heap (refAt its j) #[.ref e.2.1, e.2.2] := fun j e z => by
    obtain ⟨t, a1, a2, _⟩ := hes j e z
    have : refAt its j = t := by unfold refAt; rw [a1]
    rw [this]
    exact ⟨a1, a2⟩
  have ok : PlainSeq "list" s.heap l its.toArray ∧ PairItems s.heap its.toArray (refAt its) pv := by
    refine ⟨⟨_, m, hlo, rfl, rfl, rfl⟩, by simp [pvl, itl], fun j a b z => ?_⟩
    obtain ⟨e, z1, rfl, rfl⟩ := pvAt j a b z
    obtain ⟨a1, a2⟩ := refs j e z1
    exact ⟨by simpa using a1, .inl a2⟩
  have dfp : d ∉ l :: (List.range pv.length).map (refAt its) := fun z => by
    rcases List.mem_cons.mp z with e | e
    · exact ndl e
    · obtain ⟨j, hj, e⟩ := List.mem_map.mp e
      have hj : j < es.length := by rw [← pvl]; exact List.mem_range.mp hj
      obtain ⟨_, o, a1, _, a2⟩ := refs j _ (List.getElem?_eq_getElem hj)
      obtain ⟨m2, a2⟩ := a2
      rw [e, hdo] at a1
      cases a1
      rw [hdd] at a2
      cases a2
  have isAll : ∀ e ∈ xs ++ es, (nestedKind X.prog X.w).is s.heap e.1 e.2.1 := fun e he => by
    rcases List.mem_append.mp he with z | z
    · exact entX_is I n.l r1 e z
    · obtain ⟨j, hj⟩ := List.mem_iff_getElem?.mp z
      exact (hes j e hj).choose_spec.2.2
  have lenK : xs.length = ks.length := n.l.len
  have lenD : es.length = ds.length := by rw [ln]; exact hps.len.1
  refine call_update_pairsH (PairArg.list l its.toArray (refAt its) pv) (I.ok.hd hc) (kd_room hu) ok dfp (ps := es) ⟨pvl.symm, fun j a b z => ?_⟩ (fun h' kp e he => ?_) hm (by rw [pvl]; omega) fun h' tk hd' kp => ?_
  · obtain ⟨e, z1, rfl, rfl⟩ := pvAt j a b z
    exact ⟨e.1, e.2.1, z1, rfl⟩
  · exact nestedKind_stays.but ⟨od, eds, epd, hdo, hdd⟩ h' kp _ _ (isAll e he)
  · obtain ⟨kv', xv', a1, a2, a3⟩ := add_ent (p := (ks, vs)) hps hpv n.nd n.l r1 r2 ha
    have sz' := storedAllH_length es xs
    obtain ⟨o2, es2, ep2, g1, g2, g3, g4, g5, g6⟩ := hd'
    have n' : Ents (storedAllH xs es) q.1 kv' xv' := ⟨a1, g6, by omega⟩
    have hashes : ∀ (zs : List Ent) (qs : List D) (kv xv : List V), EntX zs qs kv xv → ∀ w : World, zs.map (entryOfKey (nestedKind X.prog X.w)) = zs.map fun x => ⟨x.1.hash w, .ref x.2.1, x.2.2⟩ := by
      intro zs qs kv xv ex w
      induction ex with
      | nil => rfl
      | cons b1 b2 b3 ih =>
        rw [List.map_cons, List.map_cons, ih]
        congr 1
        show (⟨NestedKey.hash X.w _, _, _⟩ : DictEntry) = _
        rw [key_hash b1 X.w w]
    have new : ObjOk X.prog X.w (upd H d (KDo d o2 (storedAllH xs es))) h' d (KDo d o2 (storedAllH xs es)) := by
      refine ⟨⟨h0, g1, g2, es2, ep2, g3, fun w => by rw [g4]; exact hashes _ _ _ _ a1 w⟩, ⟨o2, g1⟩, ?_⟩
      rintro h1 h2 ⟨z, q, r⟩ k
      exact ⟨z, k _ q, r⟩
    exact ⟨.non, _, I.write (t' := tk) (by rw [hd]; exact True.intro) (.inl rfl) (fun b u nb e => kp b u nb (by simp) e) ⟨o2, g1⟩ new, rfl, k _ _ _ _ n' a2 a3⟩
end
section
variable {X : Cx} {W : WX}
theorem pe_bmK {o e : Expr} {es : List Expr} {to : TE} {t : TA} {name : Str} {apos cpos : Pos} {T id : String} {r : V → List V → Hp → VK → Prop} {ty : V → Hp → Prop} (pa : PlainAttrs T) (slot : Slot T name id) (hty : typeOf (.builtin id) = pure (.type "method_descriptor")) (hm : MtR X id r)
    (tys : ∀ {pins : List (Addr × Obj)} {σ : L2.St} {H : Hp} {s : Shared} {x : V} {v : Value}, Inv X pins σ H s → RelV x v → ty x H → s.TypeIs v T ∧ ∀ a, v = .ref a → ∃ ob, s.heap.get? a = some ob ∧ ob.dict = none) (ho : PE X o to) (ha : PA X (e :: es) t)
    (hbase : attributeBase o name X.env (eval o X.env) = eval o X.env)
    (hfew : ((backTo cpos (starEach (e :: es) X.env)).all (fun x => !x.1) && (backToKw cpos (keywordEach [] X.env)).all (fun x => x.1.isSome) && decide ((e :: es).length + ([] : List Keyword).length + (if ([] : List Keyword).isEmpty then 0 else 1) < 30)) = true)
    (hline : (apos.endLine == cpos.line) = true) (hs : starEach (e :: es) X.env = (false, eval e X.env) :: starEach es X.env) (hplain : (backTo cpos (starEach es X.env)).any (·.1) = false) :
    PE X (.Call (.Attribute o name apos) (e :: es) [] cpos) (fun σ H Q => to σ H fun x H1 => ty x H1 ∧ t σ H1 fun xs H2 => r x xs H2 Q) := by
  refine ⟨fun pins s σ H Q I h => wpAny_Call_method_late hbase hfew hline rfl (thn (ho.run pins s σ H _ I h) fun v s1 ⟨x, H1, I1, r1, y, q1⟩ => ?_)⟩
  have hA := ha.run cpos pins s1 σ H1 _ I1 q1
  rw [hs] at hA ⊢
  refine ⟨T, id, pa, slot, hty, (tys I1 r1 y).1, (tys I1 r1 y).2, Calls.callWith_builtin (by show (false || (backTo cpos (starEach es X.env)).any (·.1)) = false; rw [hplain]; rfl) (Calls.evalArgs_plain (thn hA fun us s2 ⟨vs, H2, I2, r2, q2⟩ => hm pins s2 σ H2 x vs v us Q I2 r1 r2 q2))⟩
def tyK (x : V) (H : Hp) : Prop := ∃ d o xs, x = .ref d ∧ H d = some (KDo d o xs)
theorem tyK_is {pins : List (Addr × Obj)} {σ : L2.St} {H : Hp} {s : Shared} {x : V} {v : Value} (I : Inv X pins σ H s) (r : RelV x v) (h : tyK x H) : s.TypeIs v "dict" ∧ ∀ a, v = .ref a → ∃ ob, s.heap.get? a = some ob ∧ ob.dict = none := by
  obtain ⟨d, o, xs, rfl, hd⟩ := h
  obtain ⟨⟨_, h1, h2, _⟩, _, _⟩ := I.hok d _ hd
  obtain rfl : v = Value.ref d := r
  exact ⟨⟨o, h1, h2.1⟩, fun a e => by cases e; exact ⟨o, h1, h2.2.1⟩⟩
/-- what a slot's own dict is -/
theorem okdAt_some {ρ : Env} {i : Nat} {p : List D × List D} (h : okdAt ρ i = some p) : ρ[i]? = some (some (.okd p.1 p.2)) := by
  unfold okdAt at h
  split at h
  · rename_i ks vs e
    cases h
    exact e
  · cases h
theorem At.okd_ {K : PySem.W.Frag} {Hin : Hp} {G : Gh} {H : Hp} {σ : L2.St} {ρ : Env} {S : Store} (A : At K Hin G H σ ρ S) {i : Nat} {p : List D × List D} (h : okdAt ρ i = some p) :
    ∃ a o xs kv xv, σ[i]? = some (some (.ref a)) ∧ H a = some (KDo a o xs) ∧ ¬ G.Z a ∧ a ∉ G.ids ∧ Hin a = none ∧ Ents xs p.1 kv xv ∧ Rls K G H kv p.1 ∧ Rls K G H xv p.2 := by
  obtain ⟨v, h1, h2, h3, h4⟩ := A.env.slot i _ (okdAt_some h)
  obtain ⟨a, rfl, ha⟩ := h3 rfl
  cases h2 with
  | base q => cases q
  | okd q1 q2 q3 q4 q5 q6 => exact ⟨a, _, _, _, _, h1, q1, q2, q3, ha, q4, q5, q6⟩
/-- what a slot has alone is changed -/
theorem RelE.owPut {K : PySem.W.Frag} {Hin : Hp} {G : Gh} {H : Hp} {σ : L2.St} {ρ : Env} (E : RelE K Hin G H σ ρ) {i : Nat} {a : Addr} {d d' : D} {u : HO} (w : d.isOw = true) (w' : d'.isOw = true) (h1 : ρ[i]? = some (some d)) (h2 : σ[i]? = some (some (.ref a))) (h6 : Hin a = none)
    (ex : Ext noB G H G (upd H a u)) (r : Rl K G (upd H a u) (.ref a) d') : RelE K Hin G (upd H a u) σ (ρ.set i (some d')) where
  len := by rw [List.length_set]; exact E.len
  slot := fun j e h => by
    have hi : i < ρ.length := (List.getElem?_eq_some_iff.mp h1).1
    by_cases ej : i = j
    · subst ej
      rw [List.getElem?_set_self hi] at h
      cases h
      exact ⟨_, h2, r, fun _ => ⟨a, rfl, h6⟩, fun xs e => by subst e; cases w'⟩
    · rw [List.getElem?_set_ne ej] at h
      obtain ⟨v, q1, q2, q3, q4⟩ := E.slot j e h
      refine ⟨v, q1, ?_, q3, q4⟩
      have na : ∀ b, e.isOw = true → v = .ref b → b ≠ a := fun b we eb z => E.sep i j a _ _ ej w we h1 h h2 (by rw [q1, eb, z])
      cases q2 with
      | base q => exact .base (q.ext ex)
      | own r1 r2 r3 r4 => exact .own (by rw [upd_ne (na _ rfl rfl)]; exact r1) r2 r3 (r4.ext ex)
      | bor _ _ _ _ => exact absurd rfl (q4 _)
      | okd r1 r2 r3 r4 r5 r6 => exact .okd (by rw [upd_ne (na _ rfl rfl)]; exact r1) r2 r3 r4 (r5.ext ex) (r6.ext ex)
      | lam r1 r2 r3 => exact .lam r1 (ex.fx _ _ fx_code r2) fun i d z => let ⟨v, t1, t2⟩ := r3 i d z; ⟨v, t1, t2.ext ex⟩
  sep := fun j k b zs ws hjk w1 w2 e1 e2 e3 => by
    have hi : i < ρ.length := (List.getElem?_eq_some_iff.mp h1).1
    have back : ∀ (l : Nat) z, z.isOw = true → (ρ.set i (some d'))[l]? = some (some z) → ∃ z' : D, z'.isOw = true ∧ ρ[l]? = some (some z') := fun l z wz h => by
      by_cases e : i = l
      · subst e; exact ⟨_, w, h1⟩
      · rw [List.getElem?_set_ne e] at h; exact ⟨_, wz, h⟩
    obtain ⟨_, w1, e1⟩ := back j zs w1 e1
    obtain ⟨_, w2, e2⟩ := back k ws w2 e2
    exact E.sep j k b _ _ hjk w1 w2 e1 e2 e3
  hin := fun b hb => by
    by_cases e : b = a
    · rw [e, upd_same]; simp
    · rw [upd_ne e]; exact E.hin b hb
/-- a dict written -/
theorem Ext.kdUpd {K : PySem.W.Frag} {B : Hp} {G : Gh} {H : Hp} {S : Store} {a : Addr} {o o' : Obj} {xs xs' : List Ent} (h3 : H a = some (KDo a o xs)) (h4 : ¬ G.Z a) (hB : B a = none) : Ext B G H G (upd H a (KDo a o' xs')) where
  keep := fun b u hb e _ _ => by rw [upd_ne (fun z => hb (by rw [z]; exact hB))]; exact e
  tups := fun b ys e => by rw [upd_ne (fun z => by rw [z, h3] at e; cases e)]; exact e
  frzs := fun b q u e => by rw [upd_ne (fun z => by rw [z, h3] at e; cases e)]; exact e
  zk := fun b z => upd_ne (fun e => h4 (by rw [← e]; exact z))
  zm := fun _ z => z
  zn := fun _ z => .inl z
  pre := fun _ _ e => e
  idn := fun _ e => .inl e
  trk := fun b n => by
    by_cases e : b = a
    · rw [e, upd_same]; simp
    · rw [upd_ne e]; exact n
  fx := fun b u f e => upd_fx h3 fx_kd f e
  tt := rfl
theorem RelS.kdUpd {K : PySem.W.Frag} {G : Gh} {H : Hp} {S : Store} (R : RelS K G H S) {a : Addr} {o o' : Obj} {xs xs' : List Ent} (h3 : H a = some (KDo a o xs)) (h4 : ¬ G.Z a) (h5 : a ∉ G.ids) : RelS K G (upd H a (KDo a o' xs')) S where
  zt := fun b z => (Ext.kdUpd (K := K) (S := S) (B := noB) h3 h4 rfl).trk b (R.zt b z)
  zi := R.zi
  nd := R.nd
  it := fun b m => let ⟨u, e, q⟩ := R.it b m; ⟨u, by rw [upd_ne (fun z => h5 (by rw [← z]; exact m))]; exact e, q⟩
  len := R.len
  obj := fun n b u e1 e2 => (R.obj n b u e1 e2).ext (Ext.kdUpd (K := K) (S := S) (B := noB) h3 h4 rfl) (upd_ne fun z => h5 (by rw [← z]; exact List.mem_of_getElem? e1))
  tabs := tabs_keep R.tabs fun b u e f => upd_tab h3 fx_kd kd_tbl e f
theorem s_updK {st : Stmt} {i : Nat} {m : Env → M D} (hps : PS X st (tDrop (fun σ H Q => tVar i σ H fun x H1 => tyK x H1 ∧ tCons (tE X.K W m) tNil σ H1 fun xs H2 => rUpdK X.K x xs H2 Q))) :
    PS X st (tS X.K W fun ρ => match okdAt ρ i with
    | some p => tryM (m ρ) ρ fun d => match d.list? with
      | some ds => match kdAdd ds p with
        | some q => if p.1.length + ds.length ≤ sizeLine then M.ret (.nx (ρ.set i (some (.okd q.1 q.2)))) else M.bad
        | none => M.bad
      | none => M.bad
    | none => M.bad) := by
  refine PS.imp hps fun D σ H ⟨G, ρ, S, Hin, A, h⟩ => ?_
  cases e : okdAt ρ i with
  | none => simp only [e] at h; exact h.elim
  | some p =>
    simp only [e] at h
    obtain ⟨a, o, xs, kv, xv, h1, h2, _⟩ := A.okd_ e
    refine ⟨_, h1, ⟨a, o, xs, rfl, h2⟩, ?_⟩
    refine tS_try A h fun v d G1 H1 S1 x1 A1 r1 q1 => ?_
    cases e1 : d.list? with
    | none => simp only [e1] at q1; exact q1.elim
    | some ds =>
      simp only [e1] at q1
      cases e2 : kdAdd ds p with
      | none => simp only [e2] at q1; exact q1.elim
      | some q =>
        simp only [e2] at q1
        by_cases hz : p.1.length + ds.length ≤ sizeLine
        · rw [if_pos hz] at q1
          obtain ⟨b, o1, ys, kv1, xv1, g1, g2, g3, g4, g5, g6, g7, g8⟩ := A1.okd_ e
          rw [h1] at g1
          cases g1
          obtain ⟨l, zs, rfl, hl, rz⟩ := r1.1.toList e1
          refine ⟨G1, a, o1, ys, p.1, p.2, kv1, xv1, l, zs, ds, q, rfl, rfl, g2, g6, g7, g8, hl, rz, e2, hz, fun o' xs' kv' xv' n' r7 r8 => ?_⟩
          have ex : Ext noB G1 H1 G1 (upd H1 a (KDo a o' xs')) := Ext.kdUpd (K := X.K) (S := S1) g2 g3 rfl
          have A2 : At X.K Hin G1 (upd H1 a (KDo a o' xs')) σ (ρ.set i (some (.okd q.1 q.2))) S1 :=
            ⟨A1.env.owPut rfl rfl (okdAt_some e) h1 g5 ex (.okd upd_same g3 g4 n' (r7.ext ex) (r8.ext ex)), A1.st.kdUpd g2 g3 g4⟩
          exact q1 σ G1 _ (Ext.kdUpd (K := X.K) (S := S1) g2 g3 g5) A2
        · rw [if_neg hz] at q1
          exact q1.elim
/-- a slot's dict is changed no more: no step of the program -/
theorem frzK_ok {K : PySem.W.Frag} {Hin : Hp} {G : Gh} {H : Hp} {σ : L2.St} {ρ : Env} {S : Store} {i : Nat} {p : List D × List D} (A : At K Hin G H σ ρ S) (e : okdAt ρ i = some p) : ∃ G', Ext Hin G H G' H ∧ At K Hin G' H σ (ρ.set i (some (.kd p.1 p.2))) S := by
  obtain ⟨a, o, xs, kv, xv, h1, h2, h3, h4, h5, h6, h7, h8⟩ := A.okd_ e
  have hi : i < ρ.length := (List.getElem?_eq_some_iff.mp (okdAt_some e)).1
  have ex : Ext noB G H (G.fz a) H := Ext.fz rfl
  refine ⟨G.fz a, Ext.fz h5, ⟨?_, ?_, ?_, A.env.hin⟩, A.st.fz (by rw [h2]; simp) h4⟩
  · rw [List.length_set]; exact A.env.len
  · intro j d h
    by_cases ej : i = j
    · subst ej
      rw [List.getElem?_set_self hi] at h
      cases h
      exact ⟨_, h1, .base (.kd (.inr rfl) h2 h6 (h7.ext ex) (h8.ext ex)), nofun, fun _ => nofun⟩
    · rw [List.getElem?_set_ne ej] at h
      obtain ⟨v, q1, q2, q3, q4⟩ := A.env.slot j d h
      refine ⟨v, q1, ?_, q3, q4⟩
      have na : ∀ b, d.isOw = true → v = .ref b → b ≠ a := fun b we eb z => A.env.sep i j a _ _ ej rfl we (okdAt_some e) h h1 (by rw [q1, eb, z])
      cases q2 with
      | base q => exact .base (q.ext ex)
      | own r1 r2 r3 r4 => exact .own r1 (fun z => z.elim r2 (na _ rfl rfl)) r3 (r4.ext ex)
      | bor _ _ _ _ => exact absurd rfl (q4 _)
      | okd r1 r2 r3 r4 r5 r6 => exact .okd r1 (fun z => z.elim r2 (na _ rfl rfl)) r3 r4 (r5.ext ex) (r6.ext ex)
      | lam r1 r2 r3 => exact .lam r1 r2 fun i d z => let ⟨v, t1, t2⟩ := r3 i d z; ⟨v, t1, t2.ext ex⟩
  · intro j k b zs ws hjk w1 w2 e1 e2
    have back : ∀ (l : Nat) z, z.isOw = true → (ρ.set i (some (.kd p.1 p.2)))[l]? = some (some z) → ρ[l]? = some (some z) := fun l z w h => by
      by_cases el : i = l
      · subst el
        rw [List.getElem?_set_self hi] at h
        cases h
        cases w
      · rw [List.getElem?_set_ne el] at h; exact h
    exact A.env.sep j k b zs ws hjk w1 w2 (back j zs w1 e1) (back k ws w2 e2)
theorem s_frzK {sts : List Stmt} {i : Nat} {m2 : Env → M Fl} (h2 : PSs X sts (tS X.K W m2)) : PSs X sts (tS X.K W fun ρ => seqM (match okdAt ρ i with | some p => M.ret (.nx (ρ.set i (some (.kd p.1 p.2)))) | none => M.bad) m2) := by
  refine PSs.imp h2 fun D σ H ⟨G, ρ, S, Hin, A, h⟩ => ?_
  cases e : okdAt ρ i with
  | none => simp only [e] at h; exact h.elim
  | some p =>
    simp only [e] at h
    have h : PostS X.K W Hin G H (m2 (ρ.set i (some (.kd p.1 p.2))) S) D := h
    obtain ⟨G', x, A'⟩ := frzK_ok A e
    exact ⟨G', _, S, Hin, A', PostS.from x h⟩
end
def ItK (d : Addr) (o : Obj) (xs : List Ent) : It :=
  { go := fun i H => H d = some (KDo d o xs) ∧ i < xs.length
    yld := fun i H x H' => H' = H ∧ ∃ e, xs[i]? = some e ∧ x = .ref e.2.1
    stop := fun i H => H d = some (KDo d o xs) ∧ xs.length ≤ i }
section
variable {P : Program} {w : World} {K : PySem.W.Frag} {tg : Expr} {d : Addr} {o : Obj} {xs : List Ent} {es : Array DictEntry} {ep : Nat}
theorem kd_size (h : ∀ w : World, es.toList = xs.map fun x => ⟨x.1.hash w, .ref x.2.1, x.2.2⟩) (w : World) : es.size = xs.length := by
  have := congrArg List.length (h w)
  simpa using this
theorem turn_kd (it : Addr) (hod : o.data = .dict es ep) : Turn P w K tg (ItK d o xs) [it] it (fun i h => h.IsKeyIter it d i xs.length ep) where
  mem := by simp
  obj := fun i h st b hb => by
    obtain rfl : b = it := by simpa using hb
    obtain ⟨oi, e, _, dd⟩ := st
    exact ⟨oi, e, fun v z => by rw [dd] at z; cases z⟩
  keep := fun _ _ _ st k => st.at fun oi e => k it (by simp) oi e
  item := by
    intro X hP hw hK hc i pins s σ H E I hf st ⟨hd, hi⟩
    subst hP hw hK
    obtain ⟨a0, a1, a2, a3, a4, a5⟩ := hf it (by simp)
    obtain ⟨⟨_, hg, _, es', ep', hdt, hx⟩, _, _⟩ := I.hok d _ hd
    rw [hod] at hdt
    cases hdt
    have hxi := List.getElem?_eq_getElem hi
    have hen : es[i]? = some ⟨xs[i].1.hash X.w, .ref xs[i].2.1, xs[i].2.2⟩ := by
      rw [← Array.getElem?_toList, hx X.w, List.getElem?_map, hxi]
      rfl
    refine next_key_item st hg hod (kd_size hx X.w) hen fun h' st' sb => ?_
    have I1 : Inv X pins σ H { s with heap := h' } := I.turned (t' := s.toks) (fun b ob hb e => (sb.2 b hb).trans e) a0 a1 a3 a4 a5
    obtain ⟨oi, e, c, dd⟩ := id st'
    exact ⟨.ref xs[i].2.1, rfl, go_of (s := { s with heap := h' }) e c dd (by decide) ⟨.ref xs[i].2.1, H, I1, rfl, ⟨rfl, xs[i], hxi, rfl⟩, st', fun b hb => (hf b hb).1⟩⟩
  done := by
    intro X hP hw hK hc i pins s σ H E I hf st ⟨hd, hi⟩
    subst hP hw hK
    obtain ⟨a0, a1, a2, a3, a4, a5⟩ := hf it (by simp)
    obtain ⟨⟨_, hg, _, es', ep', hdt, hx⟩, _, _⟩ := I.hok d _ hd
    rw [hod] at hdt
    cases hdt
    exact next_key_end (I.ok.hd hc) st hg hod (kd_size hx X.w) hi fun h' eb => ⟨rfl, I.turned (t' := s.toks) (fun b ob hb e => eb b ob hb e) a0 a1 a3 a4 a5⟩
  self := fun A i s Q E st h => by
    have y := st.typeIs (s := s)
    refine wpAny_pyIter_slot y F.slot_dict_keyiterator_iter (wpAny_call_entry F.slot_dict_keyiterator_iter y F.entry_dict_keyiterator_iter ?_ (F.args_dict_keyiterator_iter_1 _))
    exact (show wpAny _ _ (ret (.ref it)) _ _ s from wpAny_pure ⟨_, rfl, "dict_keyiterator", _, y, F.slot_dict_keyiterator_next.lookup, h⟩)
end
section
variable {X : Cx} {W : WX}
theorem wk_kd {K : PySem.W.Frag} {G : Gh} {H : Hp} {d : Addr} {o : Obj} {xs : List Ent} {ks : List D} {kv xv : List V} (z : G.Z d) (h : H d = some (KDo d o xs)) (n : Ents xs ks kv xv) (r : Rls K G H kv ks) : Wk K G H (ItK d o xs) ks := fun G2 H2 e => by
  have h2 : H2 d = some (KDo d o xs) := (e.zk _ z).trans h
  have at_ : ∀ {xs : List Ent} {ks : List D} {kv xv : List V}, EntX xs ks kv xv → Rls K G H kv ks → ∀ (i : Nat) (b : D), ks[i]? = some b → ∃ en, xs[i]? = some en ∧ Rl0 K G H (.ref en.2.1) b := by
    intro xs ks kv xv n
    induction n with
    | nil => intro _ i b q; simp at q
    | cons q1 q2 q3 ih =>
      intro r i b q
      cases r with
      | cons r1 r2 =>
        cases i with
        | zero => rw [List.getElem?_cons_zero] at q; cases q; exact ⟨_, by rw [List.getElem?_cons_zero], r1⟩
        | succ i => rw [List.getElem?_cons_succ] at q; rw [List.getElem?_cons_succ]; exact ih r2 i b q
  refine ⟨fun i b hb => ?_, fun i hi => ⟨h2, by rw [n.l.len]; exact hi⟩⟩
  obtain ⟨en, q1, q2⟩ := at_ n.l r i b hb
  refine ⟨⟨h2, (List.getElem?_eq_some_iff.mp q1).1⟩, fun x H3 ⟨e3, e', t1, t2⟩ => ?_⟩
  subst e3 t2
  rw [q1] at t1
  cases t1
  exact ⟨fun _ _ h => h, fun _ _ => q2.ext e⟩
theorem i_keys {tg e : Expr} {m : Env → M D} (he : PE X e (tE X.K W m)) : PI X tg e (tI X.K W fun ρ => M.bnd (m ρ) fun x => match x with | .kd ks _ => M.ret ks | _ => M.bad) := by
  refine ⟨fun pins s σ H R I ⟨G, ρ, S, Hin, A, h⟩ => ?_⟩
  have rd : tE X.K W m σ H fun v H1 => ∃ d o xs, v = .ref d ∧ H1 d = some (KDo d o xs) ∧ R (ItK d o xs) H1 := tI_bnd A h fun v b G1 H1 S1 x1 A1 r1 h1 => by
    cases b <;> first | exact h1.elim | skip
    obtain ⟨a, o, xs, kv, xv, rfl, z, hH, n, r3, r4⟩ := r1.1.toKd
    exact ⟨a, o, xs, rfl, hH, PostI.ret h1 (wk_kd z hH n r3) A1.st⟩
  refine thn (he.run pins s σ H _ I rd) fun u s1 ⟨x, H1, I1, rx, d, o, xs, ex, hd, q⟩ => ?_
  subst ex
  obtain rfl : u = Value.ref d := rx
  obtain ⟨⟨h0, hg, hx, es, ep, hdt, hes⟩, _, _⟩ := I1.hok d _ hd
  refine iter_keys h0 hg hx hdt (pi_one (tk := s1.toks) I1 _ (turn_kd _ hdt) ⟨_, Heap.get?_push_size _ rfl, rfl, ?_⟩ q)
  rw [kd_size hes X.w]
  rfl
end
end WB
namespace WB
open PySem L2

section
variable {X : Cx} {W : WX}
def densL : List (Env → M D) → Env → M (List D)
  | [], _ => M.ret []
  | m :: r, ρ => M.bnd (M.bnd (m ρ) handM) fun x => M.bnd (densL r ρ) fun xs => M.ret (x :: xs)
def Es.ms (Φ : Tb) : Es → List (Env → M D)
  | .nil => []
  | .cons e r => den Φ e :: r.ms Φ
theorem dens_eq (Φ : Tb) (ρ : Env) : ∀ es : Es, dens Φ es ρ = densL (es.ms Φ) ρ
  | .nil => rfl
  | .cons e r => by
    show M.bnd (M.bnd (den Φ e ρ) handM) (fun x => M.bnd (dens Φ r ρ) fun xs => M.ret (x :: xs)) = _
    rw [dens_eq Φ ρ r] <;> rfl
def pairRd (K : PySem.W.Frag) (W : WX) (k : Str) (m : Env → M D) : TE × TE := (tC (.str k), tM K W (r0 K) fun ρ => M.bnd (m ρ) handM)
theorem bnd_assoc {α β γ : Type} (m : M α) (f : α → M β) (g : β → M γ) : M.bnd (M.bnd m f) g = M.bnd m fun a => M.bnd (f a) g := by
  funext S
  unfold M.bnd
  cases m S <;> rfl
theorem bnd_ret {α β : Type} (a : α) (g : α → M β) : M.bnd (M.ret a) g = g a := rfl
theorem tM_bndE {K : PySem.W.Frag} {σ : L2.St} {α β γ δ : Type} {Ra : Rel α β} {Rc : Rel γ δ} {Hin : Hp} {G : Gh} {H : Hp} {ρ : Env} {S : Store} {m : Env → M α} {f : α → M γ} {Q : δ → Hp → Prop}
    (A : At K Hin G H σ ρ S) (h : Post K W σ Rc G H (M.bnd (m ρ) f S) Q) {Q' : β → Hp → Prop} (k : ∀ v d G1 H1 S1, m ρ S = .ok d S1 → Ext H G H G1 H1 → At K Hin G1 H1 σ ρ S1 → Ra H G1 H1 v d → Q' v H1) : tM K W Ra m σ H Q' := by
  refine ⟨G, ρ, S, Hin, A, ?_⟩
  unfold M.bnd at h
  cases e : m ρ S with
  | bad => rw [e] at h; exact h
  | exc x S' => rw [e] at h; exact h
  | ok d S' => exact fun v G' H' x q r => k v d G' H' S' e x ⟨A.env.ext x, r⟩ q
theorem pairs_ok {K : PySem.W.Frag} {σ : L2.St} {γ δ : Type} {Rc : Rel γ δ} (mo : RelMono Rc) {Hin : Hp} {ρ : Env} {Q : δ → Hp → Prop} : ∀ {ks : List Str} {ms : List (Env → M D)} {G : Gh} {H : Hp} {S : Store} {f : List D → M γ} {Q' : List (V × V) → Hp → Prop},
    ks.length = ms.length → At K Hin G H σ ρ S → Post K W σ Rc G H (M.bnd (densL ms ρ) f S) Q →
    (∀ vs ds G1 H1 S1, densL ms ρ S = .ok ds S1 → Ext H G H G1 H1 → At K Hin G1 H1 σ ρ S1 → Rls K G1 H1 vs ds → ds.length = ks.length → Q' ((ks.zip vs).map fun p => (V.str p.1, p.2)) H1) →
    tPairs ((ks.zip ms).map fun p => pairRd K W p.1 p.2) σ H Q'
  | [], [], G, H, S, f, Q', _, A, h, k => k [] [] G H S rfl (Ext.refl _ _ _) A .nil rfl
  | [], _ :: _, _, _, _, _, _, e, _, _, _ => by simp at e
  | _ :: _, [], _, _, _, _, _, e, _, _, _ => by simp at e
  | key :: ks, m :: ms, G, H, S, f, Q', e, A, h, k => by
    have h : Post K W σ Rc G H (M.bnd (M.bnd (M.bnd (m ρ) handM) fun x => M.bnd (densL ms ρ) fun xs => M.ret (x :: xs)) f S) Q := h
    rw [bnd_assoc] at h
    show tM K W (r0 K) (fun ρ => M.bnd (m ρ) handM) σ H _
    refine tM_bndE (m := fun ρ => M.bnd (m ρ) handM) A h fun v d G1 H1 S1 e1 x1 A1 r1 => ?_
    have e1 : M.bnd (m ρ) handM S = .ok d S1 := e1
    have r1 : Rl0 K G1 H1 v d := r1
    rw [M.bnd_ok e1, bnd_assoc] at h
    refine pairs_ok mo (ks := ks) (ms := ms) (by simpa using e) A1 (Post.from mo x1 h) fun vs ds G2 H2 S2 e2 x2 A2 r2 hl => ?_
    refine k (v :: vs) (d :: ds) G2 H2 S2 ?_ (x1.seq x2) A2 (.cons (r1.ext x2) r2) (by simp [hl])
    show M.bnd (M.bnd (m ρ) handM) (fun x => M.bnd (densL ms ρ) fun xs => M.ret (x :: xs)) S = _
    rw [M.bnd_ok e1, M.bnd_ok e2] <;> rfl
theorem zipK_some : ∀ {ks : List Str} {ds : List D} {kvs : List (Key × D)}, zipK ks ds = some kvs → kvs = (ks.zip ds).map (fun p => (Sum.inr p.1, p.2)) ∧ ks.length = ds.length
  | [], [], _, e => by cases e; exact ⟨rfl, rfl⟩
  | [], _ :: _, _, e => by cases e
  | _ :: _, [], _, e => by cases e
  | k :: ks, d :: ds, kvs, e => by
    simp only [zipK, Option.map_eq_some_iff] at e
    obtain ⟨r, e1, rfl⟩ := e
    obtain ⟨e2, e3⟩ := zipK_some e1
    exact ⟨by rw [e2] <;> rfl, by simp [e3]⟩
theorem merge_new : ∀ (kvs acc : List (Key × V)), ((acc ++ kvs).map (·.1)).Nodup → mergeK acc kvs = acc ++ kvs
  | [], acc, _ => by simp [mergeK]
  | p :: kvs, acc, nd => by
    have hn : valV acc p.1 = none := by
      cases q : valV acc p.1 with
      | none => rfl
      | some v =>
        exfalso
        have : (acc.any fun kv => decide (kv.1 = p.1)) = true := by rw [valV_any, q]; rfl
        obtain ⟨r, hr, e⟩ := List.any_eq_true.mp this
        simp only [decide_eq_true_eq] at e
        rw [List.map_append, List.map_cons, List.nodup_append] at nd
        exact nd.2.2 r.1 (List.mem_map.mpr ⟨r, hr, rfl⟩) p.1 (by simp) e
    show mergeK (putK acc p.1 p.2) kvs = _
    rw [putK_new _ hn, merge_new kvs _ (by simpa using nd)]
    simp
theorem kvs_zip {K : PySem.W.Frag} {G : Gh} {H : Hp} : ∀ {ks : List Str} {vs : List V} {ds : List D}, Rls K G H vs ds → Kvs K G H ((ks.zip vs).map fun p => (Sum.inr p.1, p.2)) ((ks.zip ds).map fun p => (Sum.inr p.1, p.2))
  | [], _, _, _ => by simp only [List.zip_nil_left, List.map_nil]; exact .nil
  | _ :: _, _, _, .nil => by simp only [List.zip_nil_right, List.map_nil]; exact .nil
  | k :: ks, _, _, .cons h r => .cons ⟨rfl, h⟩ (kvs_zip r)
def cPair (p : Int × Int) : TE × TE := (tC (.int p.1), tC (.int p.2))
def dlitOk : List (Int × Int) → List (Option Expr) → List Expr → Bool
  | [], [], [] => true
  | (k, v) :: r, some (.Constant (.int i) _ _) :: ks, .Constant (.int j) _ _ :: vs => decide (k = i) && decide (v = j) && dlitOk r ks vs
  | _, _, _ => false
theorem const_pairs {σ : L2.St} {H : Hp} : ∀ {kvs : List (Int × Int)} {Q' : List (V × V) → Hp → Prop}, Q' (kvs.map fun p => (V.int p.1, V.int p.2)) H → tPairs (kvs.map cPair) σ H Q'
  | [], _, h => h
  | p :: r, Q', h => const_pairs (kvs := r) (Q' := fun ps H3 => Q' ((V.int p.1, V.int p.2) :: ps) H3) h
theorem dlit_pps {pos : Pos} : ∀ {kvs : List (Int × Int)} {keys : List (Option Expr)} {values : List Expr}, dlitOk kvs keys values = true → PPs X pos keys values (kvs.map cPair) ∧ keys.all (·.isSome) = true ∧ keys.length = kvs.length ∧ values.length = kvs.length := by
  intro kvs keys values
  fun_induction dlitOk kvs keys values with
  | case1 => exact fun _ => ⟨pps_nil, rfl, rfl, rfl⟩
  | case2 k v r i _ _ ks j _ _ vs ih =>
    intro h
    simp only [Bool.and_eq_true, decide_eq_true_eq] at h
    obtain ⟨⟨h1, h2⟩, h3⟩ := h
    subst h1 h2
    obtain ⟨a1, a2, a3, a4⟩ := ih h3
    exact ⟨pps_cons pe_int pe_int a1, by simpa using a2, by simp [a3], by simp [a4]⟩
  | case3 => exact fun h => by cases h
theorem dct_fin {σ : L2.St} {G : Gh} {H : Hp} {S : Store} {Q : V → Hp → Prop} {kvs : List (Int × Int)} {p : Addr} (h : Post X.K W σ (rVal X.K) G H (M.ret (D.dct kvs) S) Q) (R : RelS X.K G H S) (hp : H p = none) :
    Q (.ref p) (upd H p (.dK (kvs.map fun q => ((Sum.inl q.1 : Key), V.int q.2)))) := by
  have hpi : p ∉ G.ids := fun z => by
    obtain ⟨u, e, _⟩ := R.it p z
    rw [hp] at e
    cases e
  refine h (.ref p) (G.fz p) _ ((Ext.new R hp).trans (Ext.fz hp)) (RlF.base (.dct (.inr rfl) upd_same)) ((R.new hp).fz (by rw [upd_same]; simp) hpi)
theorem s_dlit {keys : List (Option Expr)} {values : List Expr} {pos : Pos} {kvs : List (Int × Int)} (hk : dlitOk kvs keys values = true) :
    PE X (.Dict keys values pos) (tE X.K W fun _ => if decide ((kvs.map (·.1)).Nodup ∧ kvs.length ≤ 15) then M.ret (.dct kvs) else M.bad) := by
  obtain ⟨hp, ha, hl, hv⟩ := dlit_pps (X := X) (pos := pos) hk
  have post : ∀ {σ : L2.St} {G : Gh} {H : Hp} {S : Store} {Q : V → Hp → Prop}, Post X.K W σ (rVal X.K) G H ((if decide ((kvs.map (·.1)).Nodup ∧ kvs.length ≤ 15) then M.ret (D.dct kvs) else M.bad) S) Q → ((kvs.map (·.1)).Nodup ∧ kvs.length ≤ 15) ∧ Post X.K W σ (rVal X.K) G H (M.ret (D.dct kvs) S) Q := fun {σ G H S Q} h => by
    by_cases z : (kvs.map (·.1)).Nodup ∧ kvs.length ≤ 15
    · rw [if_pos (by simpa using z)] at h
      exact ⟨z, h⟩
    · rw [if_neg (by simpa using z)] at h
      exact h.elim
  cases kvs with
  | nil =>
    obtain rfl : keys = [] := List.length_eq_zero_iff.mp hl
    obtain rfl : values = [] := List.length_eq_zero_iff.mp hv
    exact PE.imp pe_dnewK fun σ H Q ⟨G, ρ, S, Hin, A, h⟩ p hp => dct_fin (post h).2 A.st hp
  | cons kv r =>
    by_cases h15 : keys.length ≤ 15
    · refine PE.imp (pe_disp hp ha (by omega) (fun e => by rw [e] at hl; cases hl) h15) fun σ H Q ⟨G, ρ, S, Hin, A, h⟩ p hp => ?_
      obtain ⟨z, h⟩ := post h
      refine const_pairs ⟨upd_same, (kv :: r).map fun q => ((Sum.inl q.1 : Key), V.int q.2), by rw [List.map_map] <;> rfl, by rw [List.length_map]; exact z.2, ?_⟩
      have nd : (((kv :: r).map fun q => ((Sum.inl q.1 : Key), V.int q.2)).map (·.1)).Nodup := by
        rw [List.map_map]
        have : ((fun x : Key × V => x.1) ∘ fun q : Int × Int => ((Sum.inl q.1 : Key), V.int q.2)) = (fun k => (Sum.inl k : Key)) ∘ Prod.fst := rfl
        rw [this, ← List.map_map]
        exact List.pairwise_map.mpr (z.1.imp fun h y => h (Sum.inl.inj y))
      rw [merge_new _ _ (by rw [List.nil_append]; exact nd), List.nil_append, upd_upd]
      exact dct_fin h A.st hp
    · refine ⟨fun pins s σ H Q I q => ?_⟩
      obtain ⟨G, ρ, S, Hin, A, h⟩ := q
      exact absurd (post h).1.2 (by omega)
theorem s_dnew {keys : List (Option Expr)} {values : List Expr} {pos : Pos} {ks : List Str} {ms : List (Env → M D)} (hp : PPs X pos keys values ((ks.zip ms).map fun p => pairRd X.K W p.1 p.2)) (hl : ks.length = ms.length) (hk : keys.length = ks.length) (hall : keys.all (·.isSome) = true) (hv : keys.length = values.length) (h0 : keys ≠ []) (h15 : keys.length ≤ 15) :
    PE X (.Dict keys values pos) (tE X.K W fun ρ => M.bnd (densL ms ρ) fun xs => dnewM ks xs) := by
  refine PE.imp (pe_disp hp hall hv h0 h15) fun σ H Q ⟨G, ρ, S, Hin, A, h⟩ p hp => ?_
  have A0 : At X.K Hin G (upd H p (.dK [])) σ ρ S := ⟨A.env.ext (Ext.new A.st hp), A.st.new hp⟩
  have h0 := Post.from rVal.mono (Ext.new (o := .dK []) A.st hp) h
  refine pairs_ok rVal.mono hl A0 h0 fun vs ds G1 H1 S1 es x1 A1 r1 hd => ?_
  have h1 : Post X.K W σ (rVal X.K) G H (dnewM ks ds S1) Q := by
    have h' : Post X.K W σ (rVal X.K) G H (M.bnd (densL ms ρ) (fun xs => dnewM ks xs) S) Q := h
    rw [M.bnd_ok es] at h'
    exact h'
  have hpi : p ∉ G.ids := fun z => by
    obtain ⟨u, e, _⟩ := A.st.it p z
    rw [hp] at e
    cases e
  have hp1 : H1 p = some (.dK []) := x1.keep p _ (by rw [upd_same]; simp) upd_same hpi (fun _ => nofun)
  have hpi1 : p ∉ G1.ids := fun z => (x1.idn p z).elim hpi (by rw [upd_same]; simp)
  have hpz1 : ¬ G1.Z p := fun z => (x1.zn p z).elim (fun y => A.st.zt p y hp) (by rw [upd_same]; simp)
  refine ⟨hp1, (ks.zip vs).map fun q => (Sum.inr q.1, q.2), by rw [List.map_map] <;> rfl, ?_, ?_⟩
  · rw [List.length_map, List.length_zip]; omega
  · cases e : zipK ks ds with
    | none => simp only [dnewM, e] at h1; exact h1.elim
    | some kvs =>
      simp only [dnewM, e] at h1
      by_cases hz : ks.Nodup ∧ ks.length ≤ 15
      · rw [if_pos (by simpa using hz)] at h1
        obtain ⟨e1, e2⟩ := zipK_some e
        have keysK : ∀ {β : Type} (l : List β), l.length = ks.length → ((ks.zip l).map fun q => ((Sum.inr q.1 : Key), q.2)).map (·.1) = ks.map Sum.inr := fun {β} l hl' => by
          rw [List.map_map]
          have : ((fun x : Key × β => x.1) ∘ fun q : Str × β => ((Sum.inr q.1 : Key), q.2)) = (fun k => (Sum.inr k : Key)) ∘ Prod.fst := rfl
          rw [this, ← List.map_map, List.map_fst_zip (by omega)]
        have ndK : (ks.map (Sum.inr : Str → Key)).Nodup := List.pairwise_map.mpr (hz.1.imp fun h z => h (Sum.inr.inj z))
        have hvl : vs.length = ks.length := r1.length.trans hd
        rw [merge_new _ _ (by rw [List.nil_append, keysK vs hvl]; exact ndK), List.nil_append]
        -- the dict, till now ours alone, comes into the store
        have R1 := A1.st
        let G2 : Gh := { G1 with ids := G1.ids ++ [p] }
        let H2 := upd H1 p (.dK ((ks.zip vs).map fun q => ((Sum.inr q.1 : Key), q.2)))
        have ex : Ext H G1 H1 G2 H2 := by
          refine ⟨fun a o hb ha _ _ => ?_, fun a xs ha => ?_, fun a o u ha => ?_, fun a z => ?_, fun _ z => z, fun _ z => .inl z, fun n a ha => ?_, fun a ha => ?_, fun a n => ?_, fun a o f e => upd_fx hp1 (fun z => z) f e, rfl⟩
          · show upd H1 p _ a = _
            rw [upd_ne (fun z => hb (by rw [z]; exact hp))]; exact ha
          · show upd H1 p _ a = _
            rw [upd_ne (ne_of ha hp1 (by intro z; cases z))]; exact ha
          · show upd H1 p _ a = _
            rw [upd_ne (ne_of ha hp1 (by intro z; cases z))]; exact ha
          · exact upd_ne (fun e => hpz1 (by rw [← e]; exact z))
          · show (G1.ids ++ [p])[n]? = some a
            rw [List.getElem?_append_left (List.getElem?_eq_some_iff.mp ha).1]; exact ha
          · rcases List.mem_append.mp ha with h | h
            · exact .inl h
            · rw [List.mem_singleton.mp h]; exact .inr hp
          · show upd H1 p _ a ≠ none
            by_cases e : a = p
            · rw [e, upd_same]; simp
            · rw [upd_ne e]; exact n
        have exAll : Ext H G H G2 H2 := ((Ext.new (o := .dK []) A.st hp).trans (x1.weak (Ext.new (o := .dK []) A.st hp).trk)).trans ex
        have exN : Ext noB G1 H1 G2 H2 := ex.weak fun c z => absurd rfl z
        have obj : ObjR X.K G2 H2 p (.dk kvs) := ⟨_, upd_same, by rw [e1]; exact (kvs_zip r1).ext exN, by rw [e1, keysK ds hd]; exact ndK⟩
        have R2 : RelS X.K G2 H2 (S1 ++ [.dk kvs]) := by
          refine ⟨fun a z => ex.trk a (R1.zt a z), fun a z ha => ?_, ?_, fun a ha => ?_, ?_, fun n a u g1 g2 => ?_, tabs_keep R1.tabs fun b o e f => upd_tab hp1 (fun z => z) (fun _ => nofun) e f⟩
          · rcases List.mem_append.mp ha with h | h
            · exact R1.zi a z h
            · rw [List.mem_singleton.mp h] at z
              exact hpz1 z
          · exact List.nodup_append.mpr ⟨R1.nd, by simp, fun a ha b hb => by rw [List.mem_singleton.mp hb]; exact fun z => hpi1 (by rw [← z]; exact ha)⟩
          · rcases List.mem_append.mp ha with h | h
            · obtain ⟨o, q1, q2⟩ := R1.it a h
              exact ⟨o, by show upd H1 p _ a = _; rw [upd_ne (fun z => hpi1 (by rw [← z]; exact h))]; exact q1, q2⟩
            · rw [List.mem_singleton.mp h]; exact ⟨_, upd_same, trivial⟩
          · show (G1.ids ++ [p]).length = _
            simp [R1.len]
          · have g1 : (G1.ids ++ [p])[n]? = some a := g1
            by_cases hl' : n < G1.ids.length
            · rw [List.getElem?_append_left hl'] at g1
              rw [List.getElem?_append_left (by rw [← R1.len]; exact hl')] at g2
              exact (R1.obj n a u g1 g2).ext exN (upd_ne fun z => hpi1 (by rw [← z]; exact List.mem_of_getElem? g1))
            · have hn : n = G1.ids.length := by
                have := (List.getElem?_eq_some_iff.mp g1).1
                simp at this
                omega
              subst hn
              rw [List.getElem?_append_right (Nat.le_refl _)] at g1
              rw [R1.len, List.getElem?_append_right (Nat.le_refl _)] at g2
              simp at g1 g2
              subst g1 g2
              exact obj
        refine h1 (.ref p) G2 H2 exAll (RlF.base (.ref ?_)) R2
        · show (G1.ids ++ [p])[S1.length]? = some p
          rw [← R1.len, List.getElem?_append_right (Nat.le_refl _)]
          simp
      · rw [if_neg (by simpa using hz)] at h1
        exact h1.elim
theorem s_lnew {es : List Expr} {pos : Pos} {m : Env → M (List D)} (h : PA X es (tA X.K W m)) : PE X (.List es pos) (tE X.K W fun ρ => M.bnd (m ρ) fun xs => if xs.length ≤ sizeLine then newM (.lst xs) else M.bad) := by
  refine PE.imp (pe_lst h) fun σ H Q ⟨G, ρ, S, Hin, A, h⟩ => ?_
  refine tM_bnd rVal.mono A h fun vs ds G1 H1 S1 x1 A1 r1 h1 => ?_
  by_cases hz : ds.length ≤ sizeLine
  · rw [if_pos hz] at h1
    refine ⟨by rw [Rls.length r1]; exact hz, fun p hp => ?_⟩
    obtain ⟨G2, ex, R2, hi⟩ := idNew A1.st (o := .lst vs) (mo := .lst ds) hp trivial fun G' ex' => ⟨vs, upd_same, Rls.ext ex' r1⟩
    exact h1 (.ref p) G2 _ ex (RlF.base (.ref hi)) R2
  · rw [if_neg hz] at h1
    exact h1.elim

structure RoomG (k : Nat) (A : Around) : Prop where
  room : Room (k + 4) A
  gd : A.guards = some []
theorem RoomG.mono {j k : Nat} {A : Around} (r : RoomG k A) (h : j ≤ k) : RoomG j A := ⟨r.room.mono (Nat.add_le_add_right h 4), r.gd⟩
def PostF (K : PySem.W.Frag) (G : Gh) (H : Hp) (r : WB.R D) (Q : VK) (E : XK) : Prop := match r with
  | .bad => False
  | .ok d S' => ∀ v G' H', Ext H G H G' H' → RlF K H G' H' v d → RelS K G' H' S' → Q v H'
  | .exc x S' => ∀ cls dd G' H', Ext H G H G' H' → XRel K G' H' x cls dd → RelS K G' H' S' → E cls dd H'
/-- the def at f does what fn tells -/
structure FnG (P : Program) (w : World) (K : PySem.W.Frag) (mg : Str → Option Value) (base : Heap) (k : Nat) (f : Addr) (fd : FuncData) (ps : List Str) (fn : List D → M D) : Prop where
  run : ∀ (A : Around) (outer : List PySem.Env) (s : Shared) (H : Hp) (args : Args) (us : List Value) (vs : List V) (G : Gh) (ds : List D) (S : Store) (Q : VK) (E : XK), RoomG k A → Env0 P w K mg base A outer s H → BindsTo s fd args (ps.zip us) → vs.length = ps.length → Vals vs us →
    Rls K G H vs ds → RelS K G H S → PostF K G H (fn ds S) Q E → codeAny (model P w) A (.call (.ref f) args) (CR (L2.CX P w) outer P w H s Q E) s
  len : ∀ ds S, fn ds S ≠ .bad → ds.length = ps.length
theorem call_G {k : Nat} {f : Addr} {fd : FuncData} {ps : List Str} {fn : List D → M D} (F : FnG X.prog X.w X.K X.mg X.base k f fd ps fn) (hr : RoomG k X.A) (hb : Binds X.K fd ps []) (tk : Takes X W)
    {pins : List (Addr × Obj)} {s : Shared} {σ : L2.St} {H : Hp} {us : List Value} {vs : List V} {G : Gh} {ds : List D} {S : Store} {Q : VK} (I : Inv X pins σ H s) (r : Vals vs us) (rl : Rls X.K G H vs ds) (R : RelS X.K G H S) (h : Post X.K W σ (rVal X.K) G H (fn ds S) Q) :
    wpAny (model X.prog X.w) X.A (call (.ref f) us) (EP X pins σ Q) X.xe s := by
  have hne : fn ds S ≠ .bad := fun z => by rw [z] at h; exact h
  have hl : vs.length = ps.length := rl.length.trans (F.len ds S hne)
  have hul : (us ++ []).length = ps.length := by rw [List.append_nil, ← r.length]; exact hl
  have bd := hb s us I.kIn hul
  rw [List.append_nil] at bd
  have post : PostF X.K G H (fn ds S) Q (WE W σ) := by
    cases e : fn ds S with
    | bad => exact absurd e hne
    | ok d S' => rw [e] at h; exact h
    | exc x S' => rw [e] at h; exact h
  refine wpAny_call (codeAny_mono (F.run X.A X.stack s H ⟨us, []⟩ us vs G ds S Q (WE W σ) hr I.env0 bd hl r rl R post) fun res s' hq => ?_)
  cases res with
  | error e => exact passAt tk σ pins H s e s' I hq
  | ok fl =>
    cases fl with
    | ret u => exact I.after hq
    | next => exact False.elim hq
    | brk => exact False.elim hq
    | cont => exact False.elim hq
theorem s_call {k : Nat} {f : Addr} {fd : FuncData} {ps : List Str} {fn : List D → M D} {x : Str} {p pos : Pos} {e : Expr} {es : List Expr} {m : Env → M (List D)} (F : FnG X.prog X.w X.K X.mg X.base k f fd ps fn) (hr : RoomG k X.A) (hg : Gl X x) (hm : X.mg x = some (.ref f)) (hk : PySem.W.keepIn X.K (.ref f) = true) (hb : Binds X.K fd ps []) (tk : Takes X W)
    (ha : PA X (e :: es) (tA X.K W m)) (hdb : (x == ("__debug__" : Str)) = false) (he : starEach (e :: es) X.env = (false, eval e X.env) :: starEach es X.env) (hpl : (backTo pos (starEach es X.env)).any (·.1) = false) :
    PE X (.Call (.Name x p) (e :: es) [] pos) (tE X.K W fun ρ => M.bnd (m ρ) fn) := by
  refine ⟨fun pins s σ H Q I ⟨G, ρ, S, Hin, A, h⟩ => ?_⟩
  refine wpAny_Call_Name_kw (ld_glob I hg hm ?_ hdb)
  have rd : tA X.K W m σ H fun vs H1 => ∃ G1 ds S1, Rls X.K G1 H1 vs ds ∧ RelS X.K G1 H1 S1 ∧ Post X.K W σ (rVal X.K) G1 H1 (fn ds S1) Q :=
    tM_bnd rVal.mono A h fun vs ds G1 H1 S1 x1 A1 r1 h1 => ⟨G1, ds, S1, r1, A1.st, h1⟩
  refine PySem.W.callWith_K (h₀ := X.base) I.ok.mod.kin hk (thn (ha.run pos pins s σ H _ I rd) fun us s1 q => ?_) he hpl
  obtain ⟨vs, H1, I1, r, G1, ds, S1, rl, R, po⟩ := q
  exact ⟨I1.kIn, call_G F hr hb tk I1 r rl R po⟩
theorem s_call0 {k : Nat} {f : Addr} {fd : FuncData} {ps : List Str} {fn : List D → M D} {x : Str} {p pos : Pos} (F : FnG X.prog X.w X.K X.mg X.base k f fd ps fn) (hr : RoomG k X.A) (hg : Gl X x) (hm : X.mg x = some (.ref f)) (hk : PySem.W.keepIn X.K (.ref f) = true) (hb : Binds X.K fd ps []) (tk : Takes X W)
    (hdb : (x == ("__debug__" : Str)) = false) : PE X (.Call (.Name x p) [] [] pos) (tE X.K W fun _ => M.bnd (M.ret []) fn) := by
  refine ⟨fun pins s σ H Q I ⟨G, ρ, S, Hin, A, h⟩ => ?_⟩
  refine wpAny_Call_Name_kw (ld_glob I hg hm ?_ hdb)
  exact PySem.W.callWith_K0 I.kIn hk (call_G (us := []) F hr hb tk I .nil .nil A.st h)
end

theorem relE_start {K : PySem.W.Frag} {G : Gh} {H : Hp} {N : List Str} {vs : List V} {ds : List D} (r : Rls K G H vs ds) : RelE K H G H (L2.start N vs) (ds.map some ++ List.replicate (N.length - ds.length) none) where
  len := by
    unfold L2.start
    rw [List.length_append, List.length_append, List.length_map, List.length_map, List.length_replicate, List.length_replicate, r.length]
  slot := fun i d h => by
    have hi : i < ds.length := by
      by_cases q : i < ds.length
      · exact q
      · rw [List.getElem?_append_right (by simpa using q), List.getElem?_replicate] at h
        split at h <;> cases h
    rw [List.getElem?_append_left (by simpa using hi), List.getElem?_map] at h
    cases e : ds[i]? with
    | none => rw [e] at h; cases h
    | some d' =>
      rw [e] at h
      cases h
      obtain ⟨v, h1, h2⟩ := r.get e
      have hv : i < vs.length := by rw [r.length]; exact hi
      refine ⟨v, ?_, .base h2, (fun w => by cases h2 <;> cases w), fun xs z => by subst z; (cases h2)⟩
      unfold L2.start
      rw [List.getElem?_append_left (by simpa using hv), List.getElem?_map, h1]
      rfl
  sep := fun i j a xs ys _ w1 _ h1 => by
    exfalso
    have hi : i < ds.length := by
      by_cases q : i < ds.length
      · exact q
      · rw [List.getElem?_append_right (by simpa using q), List.getElem?_replicate] at h1
        split at h1 <;> cases h1
    rw [List.getElem?_append_left (by simpa using hi), List.getElem?_map] at h1
    cases e : ds[i]? with
    | none => rw [e] at h1; cases h1
    | some d' =>
      rw [e] at h1
      cases h1
      obtain ⟨v, _, h2⟩ := r.get e
      cases h2 <;> cases w1
  hin := fun _ h => h
theorem fnG_of {P : Program} {w : World} {K : PySem.W.Frag} {mg : Str → Option Value} {base : Heap} {k : Nat} {f : Addr} {fd : FuncData} {x qual : Str} {st : Stmt} {N ps : List Str} {Φ : Tb} {fn : Fn} (F : Fun K x qual st f fd) (Sc : FnScope N ps (defScope st)) (hN : fn.slots = N.length) (hm : fn.many = ps.length)
    (hbody : ∀ (cdv : Value) (A : Around) (outer : List PySem.Env) (s : Shared) (H : Hp) (E : XK), RoomG k (A.deeper (PyProof.Rows.envOfC qual (defScope st) s.heap.objs.size f cdv)) →
      PSs (cxOf (L2.CX P w) P w K mg base N qual (defScope st) f cdv A outer s H E) (defBody st) (tS K (fun cls d _ H' => E cls d H') (execs Φ fn.body))) :
    FnG P w K mg base (k + 1) f fd ps (callM Φ fn) := by
  refine ⟨fun A outer s H args us vs G ds S Q E hr e0 hb hl r rl R hp => ?_, fun ds S h => ?_⟩
  · obtain ⟨oc, od, kV, doc, pm, an, cdv, ct, osl, rfl, lk, hcd⟩ := F.ex
    have hlen : ds.length = fn.many := by rw [← rl.length, hl, hm]
    let sp : Sp := fun vs' H' Q' E' => vs' = vs ∧ H' = H ∧ Q' = Q ∧ E' = E
    -- one entry alone is looked at
    have one : ∀ (A' : Around), RoomG (k + 1) A' → ∃ t, PSs (cxOf (L2.CX P w) P w K mg base N qual (defScope st) f cdv A' outer s H E) (defBody st) t ∧ t { nx := fun _ H' => Q .non H', rt := Q } (L2.start N vs) H := fun A' hr' => by
      refine ⟨_, hbody cdv A' outer s H E ⟨hr'.room.deeper _, ?_⟩, G, ds.map some ++ List.replicate (N.length - ds.length) none, S, H, ⟨relE_start rl, R⟩, ?_⟩
      · exact hr'.gd
      · have e1 : callM Φ fn ds S = (match execs Φ fn.body (ds.map some ++ List.replicate (fn.slots - ds.length) none) S with | .ok (.nx _) S' => .ok .non S' | .ok (.rt d) S' => .ok d S' | .ok (.ex x _) S' => .exc x S' | _ => .bad) := if_pos hlen
        rw [hN] at e1
        rw [e1] at hp
        cases q : execs Φ fn.body (ds.map some ++ List.replicate (N.length - ds.length) none) S with
        | bad => rw [q] at hp; exact hp.elim
        | exc _ _ => rw [q] at hp; exact hp.elim
        | ok fl S' =>
          rw [q] at hp
          cases fl with
          | nx ρ' => exact fun σ' G' H' ex A'' => hp .non G' H' ex (RlF.base .non) A''.st
          | rt d => exact fun v G' H' ex rv _ R' => hp v G' H' ex rv R'
          | ex x ρ' => exact fun cls dd σ' G' H' ex rx A'' => hp cls dd G' H' ex rx A''.st
          | bk _ => exact hp.elim
          | ct _ => exact hp.elim
    have KX : K.In s.heap := e0.mod.kin.keeps fun b o e => (e0.bs b o e).1
    have lim : s.heap.NoLimit := e0.mod.nolimit.keeps fun b o e => (e0.bs b o e).1
    have hkind : ∀ y ∈ ps.zip us, (defScope st).names.lookup y.1 = some .local ∨ ((defScope st).names.lookup y.1 = some .cell ∧ ((cellsFrom (s.heap.objs.size + 1) (defScope st).names []).lookup y.1).isSome = true) := fun y hy => by
      rcases Sc.par y.1 (List.of_mem_zip (a := y.1) (b := y.2) hy).1 with q | q
      · exact .inl q
      · exact .inr ⟨q, PySem.W.cellsFrom_some _ _ _ (.inl q)⟩
    refine codeAny_call_function hr.room.depth (KX _ _ lk) rfl Sc.co Sc.gen rfl (PySem.W.codeRec_of KX hcd) (hb _ _ _ _ ?_)
    refine wpAny_newFunctionEnv_cells Sc.kind hkind fun env he s1 x1 => ?_
    subst he
    refine ⟨lim.keeps x1.toInCall.keep, codeAny_func ?_⟩
    obtain ⟨t, ht, hq⟩ := one A hr
    have I := inv_start (CX := L2.CX P w) (E := E) (N := N) (P := P) (w := w) (K := K) (mg := mg) (base := base) (A := A) (outer := outer) (H := H) Sc hr.room.hd e0 hl r x1
    refine wpAny_mono (ht.run [] s1 (L2.start N vs) H _ I hq) (fun fl s' hs => ?_) fun e s' hs => hs
    cases fl with
    | ret u =>
      obtain ⟨v, σ', H', J, rv, q⟩ := hs
      exact ⟨v, H', J.os, J.bare, J.base, J.hok, rv, q⟩
    | next =>
      obtain ⟨σ', H', J, q⟩ := hs
      exact ⟨.non, H', J.os, J.bare, J.base, J.hok, rfl, q⟩
    | brk => obtain ⟨_, _, _, q⟩ := hs; exact False.elim q
    | cont => obtain ⟨_, _, _, q⟩ := hs; exact False.elim q
  · unfold callM at h
    by_cases e : ds.length = fn.many
    · rw [e, hm]
    · rw [if_neg e] at h
      exact absurd rfl h
end WB
namespace WB
open PySem L2 PySem.Spec PyProof.Rows

section
variable {X : Cx} {pins : List (Addr × Obj)} {σ : L2.St} {H : Hp}
theorem track {sI s' : Shared} {B h4 : Heap} {a C : Addr} {d : Option Addr} {oe : Obj} {vs : Array Value} (J : Inv X pins σ H sI) (nb : ∀ b o, sI.heap.get? b = some o → b ∉ frs X.stack → B.get? b = some o) (st : B.StaysIn h4) (up : sI.heap.UpToSlots h4) (eo : s'.os = sI.os) (ag : AllBare s'.gens)
    (Ba : B.get? a = none) (nfr : a ∉ frs X.stack) (na : H a = none) (ha : h4.get? a = some oe) (hz : Zc (.ref C) d oe) (hd : oe.data = .fields vs) : Inv X pins σ (upd H a (ExK a C d)) { s' with heap := h4 } := by
  have aI : sI.heap.get? a = none := by
    cases q : sI.heap.get? a with
    | none => rfl
    | some o =>
      have := nb a o q nfr
      rw [Ba] at this
      cases this
  obtain ⟨F, f1, f2⟩ := restrict h4 fun b => decide (b ≠ a)
  have fk : ∀ b, b ≠ a → F.get? b = h4.get? b := fun b n => f1 b (decide_eq_true n)
  have fa : F.get? a = none := f2 a (by simp)
  have nI : ∀ b o, sI.heap.get? b = some o → b ≠ a := fun b o q z => by rw [z, aI] at q; cases q
  have JF : Inv X pins σ H { s' with heap := F } := by
    refine J.landed (s' := { s' with heap := F }) nb (fun b o q => ?_) (fun b o q n => ?_) eo ag
    · show F.get? b = some o
      rw [fk b (fun z => by rw [z, Ba] at q; cases q)]
      exact st b o q
    · obtain ⟨sl, e⟩ := up b o q n
      exact ⟨sl, by show F.get? b = _; rw [fk b (nI b o q)]; exact e⟩
  refine JF.laidN (h' := h4) (t' := s'.toks) (fun b u q => ?_) fa na ⟨⟨oe, vs, ha, hz.1, hz.2, hd⟩, ⟨oe, ha⟩, fun h1 h2 z k => ?_⟩
  · have q : F.get? b = some u := q
    by_cases n : b = a
    · rw [n, fa] at q; cases q
    · rw [← fk b n]; exact q
  · obtain ⟨o, us, e1, e2⟩ := z
    exact ⟨o, us, k o e1, e2⟩
theorem toSuite {s : Shared} {a : Addr} (I : Inv X pins σ H s) : Inv (X.suite a (X.pn ++ pins)) [] σ H s :=
  ⟨I.ok.suite _ _, I.os, I.bare, I.base, I.loc, I.cell, I.free, I.freeC, fun p hp => I.pin p (by rw [List.append_nil] at hp; exact hp), I.hok, I.len⟩
theorem ofSuite {s : Shared} {a : Addr} {pn' : List (Addr × Obj)} (I : Inv (X.suite a (X.pn ++ pins)) pn' σ H s) (ok : X.Ok) : Inv X pins σ H s :=
  ⟨ok, I.os, I.bare, I.base, I.loc, I.cell, I.free, I.freeC, fun p hp => I.pin p (List.mem_append_left _ hp), I.hok, I.len⟩
end

abbrev HSu := Addr → Addr → Option Addr → TS
def slotX (a : Addr) (σ : L2.St) : Option Nat → L2.St
  | none => σ
  | some i => σ.set i (some (.ref a))
def endsX (D : Ends) : Option Nat → Ends
  | none => D
  | some i => { nx := fun σ' H' => D.nx (σ'.set i none) H', rt := D.rt, bk := fun σ' H' => D.bk (σ'.set i none) H', ct := fun σ' H' => D.ct (σ'.set i none) H' }
/-- what the clauses wish, one behind the other; an error is of a class of the program -/
def wX (K : PySem.W.Frag) (Wo : WX) (D : Ends) : List (Value × Option Nat × HSu) → WX
  | [] => Wo
  | (c, oi, ts) :: r => fun cls d σ H => ∃ yes C, cls = .ref C ∧ PySem.W.exmOne K (.ref C) c = some yes ∧ (yes = true → ∀ a, H a = none → ts a C d (endsX D oi) (slotX a σ oi) (upd H a (ExK a C d))) ∧ (yes = false → wX K Wo D r cls d σ H)
/-- a clause's name is a plain one of this frame -/
def nameX (X : Cx) : Option Str → Option Nat → Prop
  | none, none => True
  | some n, some i => X.N[i]? = some n ∧ X.env.kindOf n = some .local
  | _, _ => False
inductive HdsX (X : Cx) : List ExceptHandler → List (Value × Option Nat × HSu) → Prop
  | nil : HdsX X [] []
  | cons {x : Str} {c : Value} {on : Option Str} {oi : Option Nat} {ts : HSu} {b0 : Stmt} {bs : List Stmt} {p1 p2 : Pos} {hs : List ExceptHandler} {l : List (Value × Option Nat × HSu)} (hc : Names X x c) (hn : nameX X on oi)
      (su : ∀ (a C : Addr) (d : Option Addr) (pn : List (Addr × Obj)), PSs (X.suite a pn) (b0 :: bs) (ts a C d)) (r : HdsX X hs l) : HdsX X (.ExceptHandler (some (.Name x p1)) on (b0 :: bs) p2 :: hs) ((c, oi, ts) :: l)
section
variable {X : Cx} {body : List Stmt} {h0 : ExceptHandler} {hs : List ExceptHandler} {l : List (Value × Option Nat × HSu)} {pos : Pos} {tb : WX → TS} {Wo : WX}
theorem ps_tryX (es : X.stack = X.env :: X.outer) (ef : X.env.frame = some X.env.locals) (nd : X.N.Nodup) (tk : Takes X Wo)
    (hb : ∀ (W' : WX) (pn : List (Addr × Obj)) (xe : Value → Shared → Prop), Takes (X.tr pn xe) W' → PassesOwn (model X.prog X.w) X.A X.env xe → PSs (X.tr pn xe) body (tb W'))
    (hh : HdsX X (h0 :: hs) l) : PS X (.Try body (h0 :: hs) [] [] pos) (fun D σ H => tb (wX X.K Wo D l) D σ H) := by
  refine ⟨fun pins s σ H D I h => ?_⟩
  have ok := I.ok
  have fr : X.A.frames = some (X.env :: X.outer) := by rw [ok.frames, es]
  let onX : Value → Shared → Prop := fun e s1 => wpAny (model X.prog X.w) X.A (noteFrame e X.env) (fun _ s2 => wpAny (model X.prog X.w) X.A (setFlight e none) (fun _ s3 => wpAny (model X.prog X.w) X.A (handleBy e X.env (h0 :: hs)) (SP X pins D) X.xe s3) X.xe s2) X.xe s1
  refine wpAny_Try_except ?_
  refine wpAny_mono ((hb (wX X.K Wo D l) (X.pn ++ pins) onX (fun u s' xx => ?_) PassesOwn.looking).run [] s σ H D (I.toTry _) h) (fun f s1 q => ?_) (fun e s1 q => q)
  · obtain ⟨a, B, sI, _, τ, J0, cls, d, rfl, JT, nb, up, sky, na, eo, ag, w⟩ := xx
    have J : Inv X pins τ J0 sI := JT.ofTry ok
    have sk : Sky B (X.env :: X.outer) a (Zc cls d) X.env.locals s'.heap := by rw [← es]; exact sky
    show wpAny (model X.prog X.w) X.A (noteFrame (.ref a) X.env) _ _ _
    refine Sky.land Zc.steady fr ef sk fun g3 fl3 u3 => ?_
    have J3 : Inv X pins τ J0 { s' with heap := g3 } := J.landed nb fl3.1 (up.trans u3) eo ag
    obtain ⟨o3, v3, a3, z3, d3⟩ := fl3.there
    have nfr : a ∉ frs (X.env :: X.outer) := fun hm => by
      obtain ⟨_, o', e', nf⟩ := fl3.2.2.1.mem hm
      rw [a3] at e'
      cases e'
      exact nf _ d3
    have S3 : Inv (X.suite a (X.pn ++ pins)) [] τ J0 { s' with heap := g3 } := toSuite J3
    have go : ∀ {ks : List ExceptHandler} {m : List (Value × Option Nat × HSu)}, HdsX X ks m → wX X.K Wo D m cls d τ J0 → wpAny (model X.prog X.w) X.A (handleBy (.ref a) X.env ks) (SP X pins D) X.xe { s' with heap := g3 } := by
      intro ks m hk
      induction hk with
      | nil =>
        intro w
        refine wpAny_handleBy_nil ?_
        obtain ⟨_, _, _, oe, us, T, _, _, q1, _, q3, q4, _⟩ := id fl3
        unfold PySem.passOn
        refine wpAny_bind (wpAny_field q1 q3 q4 ?_)
        rw [if_neg (by simp : ¬ ((Value.ref T == Value.none) = true))]
        have fin : wpAny (model X.prog X.w) X.A (setFlight (.ref a) X.env.frame) (fun _ s4 => wpAny (model X.prog X.w) X.A (throw (.ref a) : Sem Flow) (SP X pins D) X.xe s4) X.xe { s' with heap := g3 } := by
          rw [ef]
          exact HandSPX.setFlight_upZ fl3 fun g4 hh4 u4 => wpAny_throw (tk _ _ ⟨a, B, sI, pins, τ, J0, cls, d, rfl, J, nb, (up.trans u3).trans u4, .inr (.inr (by rw [es]; exact hh4)), na, eo, ag, w⟩)
        first
          | exact wpAny_bind (wpAny_pure (wpAny_bind fin))
          | exact wpAny_bind fin
      | @cons x c on oi ts b0 bs p1 p2 ks2 m2 hc hn su _ ih =>
        intro w
        obtain ⟨yes, C, rfl, m1, wy, wn⟩ := w
        refine wpAny_handleBy_cons (codeAny_handlers_test ?_) (by intro q; cases q)
        have LT : PySem.W.Looks (model X.prog X.w) g3 (typeOf (.ref a)) (.ref C) := fun A Q E s k q => wpAny_typeOf_ref (k _ _ a3) (by rw [z3.1]; exact q)
        have LM := PySem.W.exm_one (M := model X.prog X.w) (J3.kIn) LT m1
        have ask : ∀ {Q : Value → Shared → Prop} {E : Value → Shared → Prop}, Q c { s' with heap := g3 } → wpAny (model X.prog X.w) (X.A.mark (some (.ref a))) (eval (.Name x p1) X.env) Q E { s' with heap := g3 } := fun {Q E} q => by
          obtain ⟨n1, n2, n3 | ⟨n3, n4, n5⟩⟩ := hc
          · exact ld_glob (X := X.suite a (X.pn ++ pins)) S3 n1 n3 q n2
          · exact ld_blt (X := X.suite a (X.pn ++ pins)) S3 n1 n3 n4 q n5 n2
        refine ask (LM.here ?_)
        cases yes with
        | false => exact ih (wn rfl)
        | true =>
          have w1 := wy rfl a na
          cases on with
          | none =>
            cases oi with
            | some _ => exact hn.elim
            | none =>
              refine codeAny_handlers_suite ?_
              refine HandSPX.lands_againZ fl3 fun g4 fl4 u4 => ?_
              obtain ⟨o4, v4, a4, z4, d4⟩ := fl4.there
              have K4 := toSuite (a := a) (track (s' := s') J nb fl4.1 ((up.trans u3).trans u4) eo ag fl4.2.1 (by rw [es]; exact nfr) na a4 z4 d4)
              refine wpAny_mono ((su a C d (X.pn ++ pins)).run [] _ _ _ _ K4 w1) (fun f s6 q => ?_) (fun _ _ z => False.elim z)
              cases f with
              | next => obtain ⟨_, _, S6, q6⟩ := q; exact ⟨_, _, ofSuite S6 ok, q6⟩
              | brk => obtain ⟨_, _, S6, q6⟩ := q; exact ⟨_, _, ofSuite S6 ok, q6⟩
              | cont => obtain ⟨_, _, S6, q6⟩ := q; exact ⟨_, _, ofSuite S6 ok, q6⟩
              | ret u => obtain ⟨_, _, _, S6, r6, q6⟩ := q; exact ⟨_, _, _, ofSuite S6 ok, r6, q6⟩
          | some n =>
            cases oi with
            | none => exact hn.elim
            | some i =>
              obtain ⟨hi, hl⟩ := hn
              refine codeAny_handlers_suite_as ?_
              refine HandSPX.lands_againZ fl3 fun g4 fl4 u4 => ?_
              obtain ⟨o4, v4, a4, z4, d4⟩ := fl4.there
              have K4 := toSuite (a := a) (track (s' := s') J nb fl4.1 ((up.trans u3).trans u4) eo ag fl4.2.1 (by rw [es]; exact nfr) na a4 z4 d4)
              refine store_ok (X := X.suite a (X.pn ++ pins)) (v := .ref a) K4 nd hi (.inl hl) rfl (fun s5 S5 => ?_) (.inr hl)
              refine wpAny_mono ((su a C d (X.pn ++ pins)).run [] s5 _ _ _ S5 w1) (fun f s6 q => ?_) (fun _ _ z => False.elim z)
              have out : ∀ {τ6 : L2.St} {H6 : Hp} {Q : Shared → Prop}, Inv (X.suite a (X.pn ++ pins)) [] τ6 H6 s6 → (∀ s7, Inv X pins (τ6.set i none) H6 s7 → Q s7) → wpAny (model X.prog X.w) X.A (do bindName X.env n .none; unbindBehindTheSuite X.env n p2) (fun _ s7 => Q s7) X.xe s6 := fun {τ6 H6 Q} S6 hq => gone_ok (ofSuite S6 ok) nd hi hl hq
              cases f with
              | next => obtain ⟨_, _, S6, q6⟩ := q; exact out S6 fun s7 J7 => ⟨_, _, J7, q6⟩
              | brk => obtain ⟨_, _, S6, q6⟩ := q; exact out S6 fun s7 J7 => ⟨_, _, J7, q6⟩
              | cont => obtain ⟨_, _, S6, q6⟩ := q; exact out S6 fun s7 J7 => ⟨_, _, J7, q6⟩
              | ret u => obtain ⟨_, _, _, S6, r6, q6⟩ := q; exact out S6 fun s7 J7 => ⟨_, _, _, J7, r6, q6⟩
    exact go hh w
  · cases f with
    | next => obtain ⟨_, _, S6, q6⟩ := q; exact wpAny_execs_nil ⟨_, _, S6.ofTry ok, q6⟩
    | brk => obtain ⟨_, _, S6, q6⟩ := q; exact ⟨_, _, S6.ofTry ok, q6⟩
    | cont => obtain ⟨_, _, S6, q6⟩ := q; exact ⟨_, _, S6.ofTry ok, q6⟩
    | ret u => obtain ⟨_, _, _, S6, r6, q6⟩ := q; exact ⟨_, _, _, S6.ofTry ok, r6, q6⟩
end
end WB
namespace WB
open PySem L2 PySem.Spec PyProof.Rows

def rIsX (K : PySem.W.Frag) : List V → Hp → VK → Prop := fun xs H Q => ∃ (a C : Addr) (d : Option Addr) (c : V) (cv : Value) (b : Bool), xs = [.ref a, c] ∧ ExcC K C ∧ H a = some (ExK a C d) ∧ (∀ dx, d = some dx → ∃ fs, H dx = some (.xd fs)) ∧ (∀ u, RelV c u → u = cv) ∧ PySem.W.kitOne K (.ref C) cv = some b ∧ Q (.bl b) H
section
variable {X : Cx} {pins : List (Addr × Obj)} {σ : L2.St} {H : Hp} {s : Shared}
/-- the object of a caught error, its dict beside it -/
theorem instX {a C : Addr} {d : Option Addr} (I : Inv X pins σ H s) (ha : H a = some (ExK a C d)) (hd : ∀ dx, d = some dx → ∃ fs, H dx = some (.xd fs)) : ∃ (o : Obj) (od : Option Obj), PySem.W.InstAt s.heap a o C od ∧ (∀ dx, d = some dx → ∃ o', od = some o' ∧ s.heap.get? dx = some o') := by
  obtain ⟨⟨o, vs, e1, e2, e3, e4⟩, _, _⟩ := I.hok a _ ha
  have nc : PySem.W.notCls o = true := by unfold PySem.W.notCls; rw [e4] <;> rfl
  cases d with
  | none => exact ⟨o, none, ⟨e1, e2, nc, by rw [e3]; trivial⟩, fun dx z => by cases z⟩
  | some dx =>
    obtain ⟨fs, hx⟩ := hd dx rfl
    have q : ObjOk X.prog X.w H s.heap dx (.xd fs) := I.hok dx _ hx
    obtain ⟨mA, ⟨o', es, ep, q1, _⟩, _⟩ := q
    exact ⟨o, some o', ⟨e1, e2, nc, by rw [e3]; exact q1⟩, fun dy z => by cases z; exact ⟨o', rfl, q1⟩⟩
theorem call_isX : CallR X (.builtin "isinstance") (rIsX X.K) := by
  intro pins s σ H xs us Q I r h
  obtain ⟨a, C, d, c, cv, b, rfl, E, ha, hd, hc, hk, q⟩ := h
  cases r with
  | cons rx rr =>
    cases rr with
    | cons rt rr =>
      cases rr
      cases rx
      have ec := hc _ rt
      subst ec
      obtain ⟨o, od, J, _⟩ := instX I ha hd
      have cl : (PySem.W.clsIn X.K C).isSome = true := by
        obtain ⟨cd, e, _⟩ := PySem.W.any_some E.hd
        rw [e]
        rfl
      exact PySem.W.kia_one (PySem.W.kitx_exc (od := od) cl E.hg E.hk E.hs E.ha E.hn E.ht E.hm) I.kIn J hk (fun z => nomatch z) fun tk => ⟨.bl b, H, I.kept (t' := tk) fun _ _ z => z, rfl, q⟩
def tFx (K : PySem.W.Frag) (f : Str) (te : TE) : TE := fun σ H Q => te σ H fun x H1 => ∃ (a C dx : Addr) (v : V), x = .ref a ∧ XfC K C ∧ PySem.W.findIn K (.ref C) f = some none ∧ H1 a = some (ExK a C (some dx)) ∧ H1 dx = some (.xd [(f, v)]) ∧ Q v H1
theorem pe_fldX {e : Expr} {te : TE} {pos : Pos} {f : Str} (he : PE X e te) (hb : attributeBase e f X.env (eval e X.env) = eval e X.env) : PE X (.Attribute e f pos) (tFx X.K f te) := by
  refine ⟨fun pins s σ H Q I h => ?_⟩
  refine attr_of hb (thn (he.run pins s σ H _ I h) fun u s1 z => ?_)
  obtain ⟨x, H1, I1, rx, a, C, dx, v, rfl, T, hno, ha, hx, q⟩ := z
  obtain rfl : u = Value.ref a := rx
  obtain ⟨o, od, J, hod⟩ := instX I1 ha (fun dy z => by cases z; exact ⟨_, hx⟩)
  obtain ⟨o', rfl, hg⟩ := hod dx rfl
  have hq : ObjOk X.prog X.w H1 s1.heap dx (.xd [(f, v)]) := I1.hok dx _ hx
  obtain ⟨mA, hns, hr⟩ := hq
  obtain ⟨od, ho, hl⟩ := lookIn_ns hns
  obtain rfl : od = o' := Option.some.inj (ho.symm.trans hg)
  obtain ⟨u, hu, ru⟩ := RelO.some_of (v := v) (o := mA f) (by have := hr f; simpa [List.lookup] using this)
  exact HandSPX.exc_get I1.kIn J T.ga T.gg T.exC (PySem.W.findObj_own T.hdC hno rfl (by rw [hl, hu])) (handed_of ru) ⟨v, H1, I1.tok _, ru, q⟩
/-- C(), C an own class of errors without __init__ of its own -/
theorem pmk0 {C : Addr} {bmB : List Value} {B newId initId : String} {x : Str} {p pos : Pos} (F : ExcBaseFacts B newId initId bmB) (q : PySem.W.excIn X.K C bmB newId = true) (gC : X.mg x = some (.ref C))
    (kC : PySem.W.keepIn X.K (.ref C) = true) (r : Raises X (.ref C)) (hg : Gl X x) (hdb : (x == ("__debug__" : Str)) = false) : PMk X (.Call (.Name x p) [] [] pos) (fun _ H Q => Q (.ref C) none H) := by
  intro pins s σ H Q I h
  refine wpAny_Call_Name_kw (ld_glob I hg gC ?_ hdb)
  refine PySem.W.callWith_K0 I.kIn kC ?_
  show wpAny _ _ (call (.ref C) []) _ _ _
  obtain ⟨bm, N, nm, qn, bs, hdct, sn, sub, ab, col, dd, k0, k1, k2, k3, k5, mN, e1, e2, e3, T⟩ := exc_obj I.kIn q
  refine wpAny_call_exc_subT F T e1 e2 e3 (fun h' e hm => ?_) (Nat.zero_le _)
  exact mk_of I hm r h (I.hok.gone hm.new)
end

/-- the value of a class by its name: an own one, or a built-in one -/
def ClsV (mg : Str → Option Value) (t : Str) (v : V) : Prop := (∃ C, mg t = some (.ref C) ∧ v = .ref C) ∨ (mg t = none ∧ ∃ n, bootBuiltins t = some (.type n) ∧ t ≠ "__name__" ∧ v = .ty n)
def vVal : V → Value
  | .ref a => .ref a
  | .ty n => .type n
  | _ => .none
theorem ClsV.one {mg : Str → Option Value} {t : Str} {v v' : V} (h : ClsV mg t v) (h' : ClsV mg t v') : v = v' := by
  rcases h with ⟨C, e, rfl⟩ | ⟨e, n, e2, _, rfl⟩ <;> rcases h' with ⟨C', e', rfl⟩ | ⟨e', n', e2', _, rfl⟩
  · rw [e] at e'; cases e'; rfl
  · rw [e] at e'; cases e'
  · rw [e] at e'; cases e'
  · rw [e2] at e2'; cases e2'; rfl
theorem ClsV.val {mg : Str → Option Value} {t : Str} {v : V} (h : ClsV mg t v) : ∀ u, RelV v u → u = vVal v := by
  rcases h with ⟨C, _, rfl⟩ | ⟨_, n, _, _, rfl⟩ <;> exact fun u r => r
theorem ClsV.pe {X : Cx} {t : Str} {v : V} {pos : Pos} (h : ClsV X.mg t v) (hg : Gl X t) (hd : (t == ("__debug__" : Str)) = false) : PE X (.Name t pos) (tC v) := by
  rcases h with ⟨C, e, rfl⟩ | ⟨e, n, e2, e3, rfl⟩
  · exact pe_glob hg e rfl hd
  · exact pe_bltn hg e e2 rfl e3 hd
theorem ClsV.names {X : Cx} {t : Str} {v : V} (h : ClsV X.mg t v) (hg : Gl X t) (hd : (t == ("__debug__" : Str)) = false) : Names X t (vVal v) := by
  rcases h with ⟨C, e, rfl⟩ | ⟨e, n, e2, e3, rfl⟩
  · exact ⟨hg, hd, .inl e⟩
  · exact ⟨hg, hd, .inr ⟨e, e2, e3⟩⟩
/-- errors of the class x: isinstance(e, t) -/
def IsOk (K : PySem.W.Frag) (mg : Str → Option Value) (x t : Str) (b : Bool) : Prop := ∃ C v, PySem.W.nsIn K mainGlobals x = some (some (.ref C)) ∧ ClsV mg t v ∧ ExcC K C ∧ PySem.W.kitOne K (.ref C) (vVal v) = some b
/-- except t: -/
def SubOk (K : PySem.W.Frag) (mg : Str → Option Value) (x t : Str) (b : Bool) : Prop := ∃ C v, PySem.W.nsIn K mainGlobals x = some (some (.ref C)) ∧ ClsV mg t v ∧ PySem.W.exmOne K (.ref C) (vVal v) = some b
def FldOk (K : PySem.W.Frag) (x f : Str) : Prop := ∃ C, PySem.W.nsIn K mainGlobals x = some (some (.ref C)) ∧ XfC K C ∧ PySem.W.findIn K (.ref C) f = some none
def veTl : List Value := [.type "ValueError", .type "Exception", .type "BaseException", .type "object"]
/-- raise x() -/
def Rs0Ok (K : PySem.W.Frag) (mg : Str → Option Value) (x : Str) : Prop := ∃ C, PySem.W.nsIn K mainGlobals x = some (some (.ref C)) ∧ mg x = some (.ref C) ∧ PySem.W.keepIn K (.ref C) = true ∧ PySem.W.excIn K C veTl "ValueError.__new__" = true ∧ PySem.W.subIn K (.ref C) (.type "BaseException") = some true ∧ PySem.W.typeIn K (.ref C) = some (.type "type")

section
variable {X : Cx} {W : WX}
theorem Rl0.excD {K : PySem.W.Frag} {G : Gh} {H : Hp} {v : V} {d : D} (h : Rl K G H v d) {c : Str} (hd : d = .exn0 c ∨ ∃ f e, d = .exn1 c f e) : ∃ a C dd, v = .ref a ∧ PySem.W.nsIn K mainGlobals c = some (some (.ref C)) ∧ H a = some (ExK a C dd) ∧ ∀ dx, dd = some dx → ∃ fs, H dx = some (.xd fs) := by
  rcases hd with rfl | ⟨f, e, rfl⟩
  · cases h with
    | base h =>
      cases h with
      | exn0 h1 h2 => exact ⟨_, _, none, rfl, h2, h1, fun dx z => by cases z⟩
  · cases h with
    | base h =>
      cases h with
      | exn1 h1 h2 h3 _ => exact ⟨_, _, _, rfl, h2, h1, fun dx z => by cases z; exact ⟨_, h3⟩⟩
theorem s_isx {a : Expr} {p p2 pos : Pos} {m : Env → M D} {t : Str} {yes no : List Str} (hy : ∀ x ∈ yes, IsOk X.K X.mg x t true) (hn : ∀ x ∈ no, IsOk X.K X.mg x t false) (ne : yes ≠ [] ∨ no ≠ []) (gt : Gl X t) (dt : (t == ("__debug__" : Str)) = false) (hg : Gl X "isinstance") (hm : X.mg "isinstance" = none) (ha : PE X a (tE X.K W m))
    (h1 : starEach [a, .Name t p2] X.env = (false, eval a X.env) :: starEach [.Name t p2] X.env) : PE X (.Call (.Name "isinstance" p) [a, .Name t p2] [] pos) (tE X.K W fun ρ => M.bnd (m ρ) (isxM yes no)) := by
  obtain ⟨v, hv⟩ : ∃ v, ClsV X.mg t v := by
    rcases ne with ne | ne
    · cases yes with
      | nil => exact absurd rfl ne
      | cons x r => obtain ⟨C, v, _, q, _⟩ := hy x List.mem_cons_self; exact ⟨v, q⟩
    · cases no with
      | nil => exact absurd rfl ne
      | cons x r => obtain ⟨C, v, _, q, _⟩ := hn x List.mem_cons_self; exact ⟨v, q⟩
  refine PE.imp (pe_callB call_isX hg hm (by decide +kernel) (pa_cons ha (pa_cons (hv.pe gt dt) pa_nil) h1) (by decide) (by decide) h1) fun σ H Q ⟨G, ρ, S, Hin, A, h⟩ => ?_
  refine tM_bnd rVal.mono A h fun u d G1 H1 S1 x1 A1 r1 h1 => ?_
  have one : ∀ c, (d = .exn0 c ∨ ∃ f e, d = .exn1 c f e) → Post X.K W σ (rVal X.K) G1 H1 ((if c ∈ yes then M.ret (.bl true) else if c ∈ no then M.ret (.bl false) else M.bad : M D) S1) Q → rIsX X.K [u, v] H1 Q := fun c hc hp => by
    obtain ⟨a, C, dd, rfl, e1, e2, e3⟩ := Rl0.excD r1.1 hc
    by_cases q1 : c ∈ yes
    · rw [if_pos q1] at hp
      obtain ⟨C', v', f1, f2, f3, f4⟩ := hy c q1
      rw [e1] at f1
      cases f1
      obtain rfl := hv.one f2
      exact ⟨a, C, dd, v, vVal v, true, rfl, f3, e2, e3, hv.val, f4, hp.ret (RlF.base (.bl _)) A1.st⟩
    · rw [if_neg q1] at hp
      by_cases q2 : c ∈ no
      · rw [if_pos q2] at hp
        obtain ⟨C', v', f1, f2, f3, f4⟩ := hn c q2
        rw [e1] at f1
        cases f1
        obtain rfl := hv.one f2
        exact ⟨a, C, dd, v, vVal v, false, rfl, f3, e2, e3, hv.val, f4, hp.ret (RlF.base (.bl _)) A1.st⟩
      · rw [if_neg q2] at hp
        exact hp.elim
  cases d with
  | exn0 c => exact one c (.inl rfl) h1
  | exn1 c f e => exact one c (.inr ⟨f, e, rfl⟩) h1
  | _ => exact h1.elim
def rIsXT (K : PySem.W.Frag) : List V → Hp → VK → Prop := fun xs H Q => ∃ (a C tp : Addr) (d : Option Addr) (cs : List V) (b : Bool), xs = [.ref a, .ref tp] ∧ ExcC K C ∧ H a = some (ExK a C d) ∧ (∀ dx, d = some dx → ∃ fs, H dx = some (.xd fs)) ∧ H tp = some (.tup cs) ∧ (∀ c ∈ cs, ∀ u, RelV c u → u = vVal c) ∧ PySem.W.kitAny K (.ref C) (cs.map vVal) = some b ∧ Q (.bl b) H
theorem vals_cls : ∀ {cs : List V} {us : List Value}, (∀ c ∈ cs, ∀ u, RelV c u → u = vVal c) → Vals cs us → us = cs.map vVal
  | _, _, _, .nil => rfl
  | _, _, h, .cons r t => by
    rw [List.map_cons, ← h _ List.mem_cons_self _ r, ← vals_cls (fun c hc => h c (List.mem_cons_of_mem _ hc)) t]
theorem call_isXT : CallR X (.builtin "isinstance") (rIsXT X.K) := by
  intro pins s σ H xs us Q I r h
  obtain ⟨a, C, tp, d, cs, b, rfl, E, ha, hd, ht, hc, hk, q⟩ := h
  cases r with
  | cons rx rr =>
    cases rr with
    | cons rt rr =>
      cases rr
      cases rx
      cases rt
      obtain ⟨o, od, J, _⟩ := instX I ha hd
      have cl : (PySem.W.clsIn X.K C).isSome = true := by
        obtain ⟨cd, e, _⟩ := PySem.W.any_some E.hd
        rw [e]
        rfl
      obtain ⟨_, its, rv, ot, h1, h2, n, h3⟩ := (show ObjOk X.prog X.w H s.heap tp (.tup cs) from I.hok tp _ ht)
      have e3 := vals_cls hc rv
      subst e3
      obtain ⟨oc, od2, dt, sl⟩ := ot
      simp only at h2 h3
      subst h2 h3
      exact PySem.W.kia_tup (PySem.W.kitx_exc (od := od) cl E.hg E.hk E.hs E.ha E.hn E.ht E.hm) I.kIn J h1 hk (fun z => nomatch z) fun tk => ⟨.bl b, H, I.kept (t' := tk) fun _ _ z => z, rfl, q⟩
def tVs : List V → TA
  | [] => tNil
  | v :: r => tCons (tC v) (tVs r)
theorem tVs_run {σ : L2.St} {H : Hp} : ∀ {vs : List V} {Q : List V → Hp → Prop}, Q vs H → tVs vs σ H Q
  | [], _, h => h
  | v :: r, Q, h => tVs_run (vs := r) (Q := fun ws H1 => Q (v :: ws) H1) h
/-- the names of classes -/
def NmOk (X : Cx) (t : Str) (e : Expr) : Prop := ∃ p, e = .Name t p ∧ Gl X t ∧ (t == ("__debug__" : Str)) = false
theorem pa_cls : ∀ {ts : List Str} {vs : List V} {es : List Expr}, Paired (NmOk X) ts es → Paired (ClsV X.mg) ts vs → PA X es (tVs vs)
  | _, _, _, .nil, .nil => pa_nil
  | _, _, _, .cons h t, .cons h' t' => by
    obtain ⟨p, rfl, g, d⟩ := h
    exact pa_cons (h'.pe g d) (pa_cls t t')
theorem cls_all {x : Str} : ∀ {ts : List Str}, (∀ t ∈ ts, IsOk X.K X.mg x t false) → ∃ vs, Paired (ClsV X.mg) ts vs
  | [], _ => ⟨[], .nil⟩
  | t :: r, h => by
    obtain ⟨C, v, _, q, _⟩ := h t List.mem_cons_self
    obtain ⟨vs, hv⟩ := cls_all fun u hu => h u (List.mem_cons_of_mem t hu)
    exact ⟨v :: vs, .cons q hv⟩
theorem cls_val : ∀ {ts : List Str} {vs : List V}, Paired (ClsV X.mg) ts vs → ∀ c ∈ vs, ∀ u, RelV c u → u = vVal c
  | _, _, .cons h t, c, hc => by
    rcases List.mem_cons.mp hc with rfl | hc
    · exact h.val
    · exact cls_val t c hc
theorem cls_none {x : Str} {C : Addr} (hC : PySem.W.nsIn X.K mainGlobals x = some (some (.ref C))) : ∀ {ts : List Str} {vs : List V}, Paired (ClsV X.mg) ts vs → (∀ t ∈ ts, IsOk X.K X.mg x t false) → PySem.W.kitAny X.K (.ref C) (vs.map vVal) = some false
  | _, _, .nil, _ => kitAny_nil
  | _, _, .cons h t, hn => by
    obtain ⟨C', v', f1, f2, f3, f4⟩ := hn _ List.mem_cons_self
    rw [hC] at f1
    cases f1
    obtain rfl := h.one f2
    exact kitAny_cons f4 (fun _ => cls_none hC t fun u hu => hn u (List.mem_cons_of_mem _ hu)) (fun z => by cases z)
theorem s_isxT {a : Expr} {p tpos pos : Pos} {kk : Nat} {m : Env → M D} {ts no : List Str} {es : List Expr} (hn : ∀ x ∈ no, ∀ t ∈ ts, IsOk X.K X.mg x t false) (hl : ts.length ≤ 1000) (nn : no ≠ []) (nt : ts ≠ []) (he : Paired (NmOk X) ts es) (hg : Gl X "isinstance") (hm : X.mg "isinstance" = none) (ha : PE X a (tE X.K W m))
    (h1 : starEach [a, .Tuple es kk tpos] X.env = (false, eval a X.env) :: starEach [.Tuple es kk tpos] X.env) : PE X (.Call (.Name "isinstance" p) [a, .Tuple es kk tpos] [] pos) (tE X.K W fun ρ => M.bnd (m ρ) (isxM [] no)) := by
  cases no with
  | nil => exact absurd rfl nn
  | cons x0 r0 =>
    obtain ⟨vs, hv⟩ := cls_all (X := X) (hn x0 List.mem_cons_self)
    have hlen : vs.length ≤ sizeLine := by
      have := Paired.length hv
      have sz : sizeLine = 16777216 := rfl
      omega
    have ht : PE X (.Tuple es kk tpos) (tTup (tVs vs)) := pe_tup (pa_cls he hv)
    refine PE.imp (pe_callB call_isXT hg hm (by decide +kernel) (pa_cons ha (pa_cons ht pa_nil) h1) (by decide) (by decide) h1) fun σ H Q ⟨G, ρ, S, Hin, A, h⟩ => ?_
    refine tM_bnd rVal.mono A h fun u d G1 H1 S1 x1 A1 r1 h1 => ?_
    have one : ∀ c, (d = .exn0 c ∨ ∃ f e, d = .exn1 c f e) → Post X.K W σ (rVal X.K) G1 H1 ((if c ∈ ([] : List Str) then M.ret (.bl true) else if c ∈ x0 :: r0 then M.ret (.bl false) else M.bad : M D) S1) Q → tTup (tVs vs) σ H1 fun w H2 => rIsXT X.K [u, w] H2 Q := fun c hc hp => by
      refine tVs_run ⟨hlen, fun q hq => ?_⟩
      have e1 := Ext.new (o := .tup vs) A1.st hq
      obtain ⟨a, C, dd, rfl, f1, f2, f3⟩ := Rl0.excD (r1.1.ext e1) hc
      rw [if_neg List.not_mem_nil] at hp
      by_cases q2 : c ∈ x0 :: r0
      · rw [if_pos q2] at hp
        have hno := cls_none f1 hv (hn c q2)
        have hE : ExcC X.K C := by
          cases ts with
          | nil => exact absurd rfl nt
          | cons t ts' =>
            obtain ⟨C', v', g1, g2, g3, g4⟩ := hn c q2 t List.mem_cons_self
            rw [f1] at g1
            cases g1
            exact g3
        exact ⟨a, C, q, dd, vs, false, rfl, hE, f2, f3, upd_same, cls_val hv, hno, hp _ G1 _ e1 (RlF.base (.bl _)) (A1.st.new hq)⟩
      · rw [if_neg q2] at hp
        exact hp.elim
    cases d with
    | exn0 c => exact one c (.inl rfl) h1
    | exn1 c f e => exact one c (.inr ⟨f, e, rfl⟩) h1
    | _ => exact h1.elim
theorem s_fld {a : Expr} {pos : Pos} {m : Env → M D} {f : Str} {ok : List Str} (hf : ∀ x ∈ ok, FldOk X.K x f) (hb : attributeBase a f X.env (eval a X.env) = eval a X.env) (ha : PE X a (tE X.K W m)) : PE X (.Attribute a f pos) (tE X.K W fun ρ => M.bnd (m ρ) (fldM f ok)) := by
  refine PE.imp (pe_fldX ha hb) fun σ H Q ⟨G, ρ, S, Hin, A, h⟩ => ?_
  refine tM_bnd rVal.mono A h fun u d G1 H1 S1 x1 A1 r1 h1 => ?_
  cases d with
  | exn1 c g e =>
    have h1 : Post X.K W σ (rVal X.K) G1 H1 ((if g = f ∧ c ∈ ok then M.ret e else M.bad : M D) S1) Q := h1
    by_cases q : g = f ∧ c ∈ ok
    · rw [if_pos q] at h1
      have h1 : Post X.K W σ (rVal X.K) G1 H1 (M.ret e S1) Q := h1
      have hh := h1
      obtain ⟨rfl, qc⟩ := q
      obtain ⟨C, f1, f2, f3⟩ := hf c qc
      cases r1.1 with
      | base r =>
        cases r with
        | exn1 k1 k2 k3 k4 =>
          rw [k2] at f1
          cases f1
          exact ⟨_, _, _, _, rfl, f2, f3, k1, k3, Post.ret (d := e) (S := S1) hh (RlF.base k4) A1.st⟩
    · rw [if_neg q] at h1
      exact h1.elim
  | _ => exact h1.elim
theorem s_raise0 {x : Str} {p pos pos2 : Pos} (hx : Rs0Ok X.K X.mg x) (hc : X.calm = true) (tk : Takes X W) (hg : Gl X x) (hd : (x == ("__debug__" : Str)) = false) : PS X (.Raise (some (.Call (.Name x p) [] [] pos)) none pos2) (tS X.K W fun ρ => M.ret (.ex ⟨x, none⟩ ρ)) := by
  obtain ⟨C, e1, e2, e3, e4, e5, e6⟩ := hx
  refine PS.imp (ps_raise hc tk (pmk0 F.excBase_ValueError e4 e2 e3 (raises_own e5 e6) hg hd)) fun D σ H ⟨G, ρ, S, Hin, A, h⟩ => ?_
  exact h (.ref C) none σ G H (Ext.refl _ _ _) ⟨C, e1, rfl, rfl⟩ A
theorem XRel.val {K : PySem.W.Frag} {G : Gh} {H : Hp} {S : Store} {x : Exn} {cls : Value} {dd : Option Addr} (h : XRel K G H x cls dd) (R : RelS K G H S) {C a : Addr} (hC : cls = .ref C) (ha : H a = none) : Rl0 K G (upd H a (ExK a C dd)) (.ref a) x.val := by
  obtain ⟨C', e1, e2, e3⟩ := h
  rw [e2] at hC
  cases hC
  obtain ⟨c, o⟩ := x
  cases o with
  | none =>
    have e3 : dd = none := e3
    subst e3
    exact .exn0 upd_same e1
  | some p =>
    obtain ⟨f, d⟩ := p
    obtain ⟨dx, v, rfl, q1, q2⟩ : ∃ dx v, dd = some dx ∧ H dx = some (.xd [(f, v)]) ∧ Rl0 K G H v d := e3
    have ex := Ext.new (o := ExK a C (some dx)) R ha
    exact .exn1 upd_same e1 (ex.fx _ _ trivial q1) (q2.ext ex)
inductive HsOk (X : Cx) (Φ : Tb) : Hs → List ExceptHandler → List (Value × Option Nat × HSu) → Prop
  | nil : HsOk X Φ .nil [] []
  | cons {t : Str} {v : V} {on : Option Str} {oi : Option Nat} {su : S} {yes no : List Str} {r : Hs} {st : Stmt} {p1 p2 : Pos} {hs : List ExceptHandler} {l : List (Value × Option Nat × HSu)} (hv : ClsV X.mg t v) (hg : Gl X t) (hd : (t == ("__debug__" : Str)) = false) (hn : nameX X on oi)
      (hy : ∀ x ∈ yes, SubOk X.K X.mg x t true) (ho : ∀ x ∈ no, SubOk X.K X.mg x t false) (hs' : ∀ (a : Addr) (pn : List (Addr × Obj)), PS (X.suite a pn) st (tS X.K W0 (exec Φ su))) (hr : HsOk X Φ r hs l) :
      HsOk X Φ (.cons t oi su yes no r) (.ExceptHandler (some (.Name t p1)) on [st] p2 :: hs) ((vVal v, oi, fun _ _ _ => tS X.K W0 (exec Φ su)) :: l)
theorem HsOk.hds {Φ : Tb} {r : Hs} {hs : List ExceptHandler} {l : List (Value × Option Nat × HSu)} (h : HsOk X Φ r hs l) : HdsX X hs l := by
  induction h with
  | nil => exact .nil
  | cons hv hg hd hn _ _ hs' _ ih => exact .cons (hv.names hg hd) hn (fun a C d pn => pss_one (hs' a pn)) ih
theorem bind_at {K : PySem.W.Frag} {Hin H : Hp} {G : Gh} {σ : L2.St} {ρ : Env} {S : Store} {x : Exn} {a : Addr} (A : At K Hin G H σ ρ S) (r : Rl0 K G H (.ref a) x.val) : ∀ oi : Option Nat, At K Hin G H (slotX a σ oi) (bindX x ρ oi) S
  | none => A
  | some i => by
    by_cases hi : i < ρ.length
    · exact ⟨A.env.set0 hi r, A.st⟩
    · have e1 : ρ.set i (some x.val) = ρ := List.set_eq_of_length_le (by omega)
      have e2 : σ.set i (some (.ref a)) = σ := List.set_eq_of_length_le (by have := A.env.len; omega)
      show At K Hin G H (σ.set i (some (.ref a))) (ρ.set i (some x.val)) S
      rw [e1, e2]
      exact A
theorem handle_ok {Φ : Tb} {r : Hs} {hs : List ExceptHandler} {l : List (Value × Option Nat × HSu)} (h : HsOk X Φ r hs l) {x : Exn} {ρ : Env} {S : Store} {Hin H : Hp} {G : Gh} {D : Ends} (hp : PostS X.K W Hin G H (handleM Φ r x ρ S) D) :
    ∀ cls dd σ' G' H', Ext Hin G H G' H' → XRel X.K G' H' x cls dd → At X.K Hin G' H' σ' ρ S → wX X.K W D l cls dd σ' H' := by
  induction h with
  | nil => exact hp
  | @cons t v on oi su yes no r st p1 p2 hs l hv hg hd hn hy ho hs' hr ih =>
    intro cls dd σ' G' H' ex rx A
    have hp : PostS X.K W Hin G H ((if x.cls ∈ yes then clearM oi (exec Φ su (bindX x ρ oi)) else if x.cls ∈ no then handleM Φ r x ρ else M.bad : M Fl) S) D := hp
    obtain ⟨C, e1, e2, e3⟩ := id rx
    by_cases q1 : x.cls ∈ yes
    · rw [if_pos q1] at hp
      obtain ⟨C', v', f1, f2, f3⟩ := hy _ q1
      rw [e1] at f1
      cases f1
      obtain rfl := hv.one f2
      refine ⟨true, C, e2, f3, fun _ a ha => ?_, fun z => by cases z⟩
      have exN := Ext.new (o := ExK a C dd) A.st ha
      have rv := rx.val A.st e2 ha
      have A1 : At X.K Hin G' (upd H' a (ExK a C dd)) σ' ρ S := ⟨A.env.ext exN, A.st.new ha⟩
      refine ⟨G', bindX x ρ oi, S, Hin, bind_at A1 rv oi, ?_⟩
      have hp2 := PostS.from (ex.trans (exN.weak A.env.hin)) hp
      unfold clearM at hp2
      cases q : exec Φ su (bindX x ρ oi) S with
      | bad => rw [q] at hp2; exact hp2.elim
      | exc _ _ => rw [q] at hp2; exact hp2.elim
      | ok fl S2 =>
        rw [q] at hp2
        cases fl with
        | nx ρ2 =>
          intro σ2 G2 H2 x2 A2
          cases oi with
          | none => exact hp2 σ2 G2 H2 x2 A2
          | some i => exact hp2 (σ2.set i none) G2 H2 x2 ⟨A2.env.setNone i, A2.st⟩
        | rt d =>
          intro u G2 H2 x2 r2 n2 R2
          cases oi with
          | none => exact hp2 u G2 H2 x2 r2 n2 R2
          | some i => exact hp2 u G2 H2 x2 r2 n2 R2
        | bk _ => exact hp2.elim
        | ct _ => exact hp2.elim
        | ex _ _ => exact hp2.elim
    · rw [if_neg q1] at hp
      by_cases q2 : x.cls ∈ no
      · rw [if_pos q2] at hp
        obtain ⟨C', v', f1, f2, f3⟩ := ho _ q2
        rw [e1] at f1
        cases f1
        obtain rfl := hv.one f2
        exact ⟨false, C, e2, f3, fun z => absurd z (by decide), fun _ => ih hp cls dd σ' G' H' ex rx A⟩
      · rw [if_neg q2] at hp
        exact hp.elim
theorem s_try {Φ : Tb} {b : Ss} {r : Hs} {body : List Stmt} {h0 : ExceptHandler} {hs : List ExceptHandler} {l : List (Value × Option Nat × HSu)} {pos : Pos} (es : X.stack = X.env :: X.outer) (ef : X.env.frame = some X.env.locals) (nd : X.N.Nodup) (tk : Takes X W) (h : HsOk X Φ r (h0 :: hs) l)
    (hb : ∀ (W' : WX) (pn : List (Addr × Obj)) (xe : Value → Shared → Prop), Takes (X.tr pn xe) W' → PassesOwn (model X.prog X.w) X.A X.env xe → PSs (X.tr pn xe) body (tS X.K W' (execs Φ b))) :
    PS X (.Try body (h0 :: hs) [] [] pos) (tS X.K W fun ρ => catchM (execs Φ b ρ) (handleM Φ r)) := by
  refine PS.imp (ps_tryX es ef nd tk hb h.hds) fun D σ H ⟨G, ρ, S, Hin, A, hp⟩ => ⟨G, ρ, S, Hin, A, ?_⟩
  have hp : PostS X.K W Hin G H (match execs Φ b ρ S with | .ok (.ex x ρ) S' => handleM Φ r x ρ S' | r => r) D := hp
  cases q : execs Φ b ρ S with
  | bad => rw [q] at hp; exact hp
  | exc _ _ => rw [q] at hp; exact hp
  | ok fl S2 =>
    rw [q] at hp
    cases fl with
    | ex x ρ2 => exact handle_ok h hp
    | nx _ => exact hp
    | rt _ => exact hp
    | bk _ => exact hp
    | ct _ => exact hp
end
end WB
namespace WB
open PySem L2 PySem.Spec PyProof.Rows

section
variable {X : Cx} {W : WX}
/-- B.__init__(self, ..), B an own class over ValueError without __init__ of its own -/
theorem pe_initB {bn : Str} {CB : Addr} {e : Expr} {es : List Expr} {ta : TA} {p1 p2 pos : Pos} (hg : Gl X bn) (hdb : (bn == ("__debug__" : Str)) = false) (hm : X.mg bn = some (.ref CB)) (sp : PySem.W.specialIn X.K (.ref CB) "__getattribute__" = some (some (.builtin "type.__getattribute__")))
    (rd : PySem.W.readsIn X.K CB (.type "type") = true) (fc : PySem.W.findCls X.K (.ref CB) (.type "type") "__init__" = some (.val (.builtin "ValueError.__init__"))) (ha : PA X (e :: es) ta)
    (hform : methodCallForm ((e :: es).length + ([] : List Keyword).length) (backTo pos (starEach (e :: es) X.env)) (backToKw pos (keywordEach [] X.env)) = true) (hline : (p2.endLine == pos.line) = true)
    (he : starEach (e :: es) X.env = (false, eval e X.env) :: starEach es X.env) (hpl : (backTo pos (starEach es X.env)).any (·.1) = false) :
    PE X (.Call (.Attribute (.Name bn p1) "__init__" p2) (e :: es) [] pos) (tVeI X.K ta) := by
  refine ⟨fun pins s σ H Q I h => ?_⟩
  have hpos : methodCallPos true (.Name bn p1) X.env p2 pos = pure pos := by unfold methodCallPos; simp [hline]
  rw [arm_eval_Call, show attributeBase (.Name bn p1) "__init__" X.env (eval (.Name bn p1) X.env) = eval (.Name bn p1) X.env from rfl]
  refine wpAny_bind (ld_glob I hg hm ?_ hdb)
  refine wpAny_bind (wpAny_standAt ?_)
  unfold methodCall
  rw [hform]
  refine wpAny_bind (wpAny_holding (PySem.W.method_cls I.kIn sp (PySem.W.cls_value I.kIn rd fc (by decide +kernel) ?_)))
  refine wpAny_bind (wpAny_of_eq hpos ?_)
  show wpAny _ _ (callWith pos (Value.builtin "ValueError.__init__") [] (backTo pos (starEach (e :: es) X.env)) []) _ _ _
  refine PyProof.Rows.callWith_method1 (thn (ha.run pos pins _ σ H _ (I.tok _) h) fun us s1 ⟨vs, H1, I1, r1, a, C, ws, ev, hl, T, ea, q⟩ => ?_) he hpl
  subst ev
  cases r1 with
  | @cons _ u0 _ ur ra rr =>
    obtain rfl : u0 = Value.ref a := ra
    have hlen : ur.length ≤ sizeLine := by
      rw [← Paired.length rr, sizeLine_eq]
      omega
    exact oinit_ok T I1 ea hlen fun s' J => ⟨.non, H1, J, rfl, q⟩
end
/-- def __init__(self, f): bn.__init__(self, f); self.f = f -/
def initB (st : Stmt) (f bn : Str) : Bool := decide ((defScope st).kind = .function) && !(defScope st).isCoroutine && !(defScope st).isGenerator && !decide (f = ("self" : Str)) && decide ((defScope st).names.lookup ("self" : Str) = some .local) && decide ((defScope st).names.lookup f = some .local) && decide ((defScope st).names.lookup bn = some .globalImplicit) &&
  (defScope st).names.all (fun y => !(y.2 == .free)) && noD f && noD bn && match defBody st with
    | [.Expr (.Call (.Attribute (.Name b _) nm apos) [.Name s1 _, .Name f1 _] [] cpos) _, .Assign [.Attribute (.Name s2 _) g _] (.Name f2 _) _] => (apos.endLine == cpos.line) && decide (b = bn) && decide (nm = ("__init__" : Str)) && decide (s1 = ("self" : Str)) && decide (s2 = ("self" : Str)) && decide (f1 = f) && decide (f2 = f) && decide (g = f)
    | _ => false
where noD (x : Str) : Bool := !(x == ("__debug__" : Str)) && !(x == ("__classdict__" : Str))
structure InitK (K : PySem.W.Frag) (mg : Str → Option Value) (C fI : Addr) (f bn : Str) : Prop where
  T : OexC K C
  iC : PySem.W.findIn K (.ref C) "__init__" = some (some (.ref fI))
  tI : PySem.W.typeIn K (.ref fI) = some (.type "function")
  hno : PySem.W.findIn K (.ref C) f = some none
  fn : ∃ qual st fd, Fun K "__init__" qual st fI fd ∧ (∀ us : List Value, us.length = 2 → bindArgs fd ⟨us, []⟩ = pure ([("self" : Str), f].zip us)) ∧ initB st f bn = true
  cb : ∃ CB, mg bn = some (.ref CB) ∧ PySem.W.specialIn K (.ref CB) "__getattribute__" = some (some (.builtin "type.__getattribute__")) ∧ PySem.W.readsIn K CB (.type "type") = true ∧ PySem.W.findCls K (.ref CB) (.type "type") "__init__" = some (.val (.builtin "ValueError.__init__"))
def spIn (C : Addr) (f : Str) : Sp := fun vs H Q _ => ∃ a y, vs = [.ref a, y] ∧ H a = some (exo a C none) ∧ ∀ dx, H dx = none → dx ≠ a → Q .non (upd (upd H dx (exd dx [(f, y)])) a (exo a C (some dx)))
theorem init_ok {P : Program} {w : World} {K : PySem.W.Frag} {mg : Str → Option Value} {base : Heap} {CX : CXT} {C fI : Addr} {f bn : Str} (I : InitK K mg C fI f bn) : ∃ fd, (∀ us : List Value, us.length = 2 → bindArgs fd ⟨us, []⟩ = pure ([("self" : Str), f].zip us)) ∧ FnOk P w K mg base CX 1 fI fd [("self" : Str), f] (spIn C f) := by
  obtain ⟨qual, st, fd, F, hb, hi⟩ := I.fn
  obtain ⟨oc, od, kV, doc, pm, an, cdv, ct, osl, rfl, lk, hcd⟩ := F.ex
  refine ⟨_, hb, ?_⟩
  unfold initB initB.noD at hi
  simp only [Bool.and_eq_true, decide_eq_true_eq, Bool.not_eq_true', decide_eq_false_iff_not, List.all_eq_true] at hi
  obtain ⟨⟨⟨⟨⟨⟨⟨⟨⟨⟨h1, h2⟩, h3⟩, h4⟩, h5⟩, h6⟩, h7⟩, h8⟩, h9⟩, h10⟩, h11⟩ := hi
  have Sc : FnScope [("self" : Str), f] [("self" : Str), f] (defScope st) := ⟨h1, h2, h3, by simpa using Ne.symm h4, rfl, fun x hx => by
    simp only [List.mem_cons, List.not_mem_nil, or_false] at hx
    rcases hx with rfl | rfl
    · exact .inl h5
    · exact .inl h6, fun y hy => by simpa using h8 y hy⟩
  refine fn_of (N := [("self" : Str), f]) (ps := [("self" : Str), f]) lk hcd Sc (fun vs H Q E ⟨a, y, e, _⟩ => by rw [e]; rfl) fun A outer s H vs Q E hr hsp => ?_
  obtain ⟨a, y, rfl, ha, k⟩ := hsp
  split at h11
  · rename_i b p1 nm p2 s1 p3 f1 p4 p5 p6 s2 p7 g p8 f2 p9 p10 eb
    simp only [Bool.and_eq_true, decide_eq_true_eq] at h11
    obtain ⟨⟨⟨⟨⟨⟨⟨hl, rfl⟩, rfl⟩, rfl⟩, rfl⟩, rfl⟩, rfl⟩, rfl⟩ := h11
    obtain ⟨CB, c1, c2, c3, c4⟩ := I.cb
    rw [eb]
    let X := cxOf CX P w K mg base [("self" : Str), g] qual (defScope st) fI cdv A outer s H E
    have gl : Gl X b := h7
    have vs : Vis X.env.scope ("self" : Str) := .inl h5
    have vf : Vis X.env.scope g := .inl h6
    have pself : ∀ pos, PE X (.Name ("self" : Str) pos) (tVar 0) := fun pos => pe_var (i := 0) rfl vs (by decide) (by decide)
    have pf : ∀ pos, PE X (.Name g pos) (tVar 1) := fun pos => pe_var (i := 1) rfl vf h9.1 h9.2
    refine ⟨_, pss_cons (ps_expr (pe_initB (X := X) gl h10.1 c1 c2 c3 c4 (pa_cons (pself p3) (pa_cons (pf p4) pa_nil)) rfl hl rfl rfl) rfl) (pss_one (ps_ost (pself p7) (pf p9))), ?_⟩
    exact ⟨.ref a, rfl, y, rfl, a, C, [y], rfl, by simp, I.T, ha, y, rfl, .ref a, rfl, a, C, rfl, I.T, I.hno, .inl ⟨ha, k⟩⟩
  · cases h11
/-- raise x(e): x keeps e as its field f -/
def Rs1Ok (K : PySem.W.Frag) (mg : Str → Option Value) (x f : Str) : Prop := ∃ C fI bn, PySem.W.nsIn K mainGlobals x = some (some (.ref C)) ∧ mg x = some (.ref C) ∧ InitK K mg C fI f bn
theorem s_raise1 {X : Cx} {W : WX} {x f : Str} {a : Expr} {p pos pos2 : Pos} {m : Env → M D} (hx : Rs1Ok X.K X.mg x f) (hr : Room 2 X.A) (hc : X.calm = true) (tk : Takes X W) (hg : Gl X x) (hd : (x == ("__debug__" : Str)) = false) (ha : PE X a (tE X.K W m)) (hs : starEach [a] X.env = (false, eval a X.env) :: starEach [] X.env) :
    PS X (.Raise (some (.Call (.Name x p) [a] [] pos)) none pos2) (tS X.K W fun ρ => tryM (M.bnd (m ρ) handM) ρ fun d => M.ret (.ex ⟨x, some (f, d)⟩ ρ)) := by
  obtain ⟨C, fI, bn, e1, e2, I⟩ := hx
  obtain ⟨fd, hb, F⟩ := init_ok (P := X.prog) (w := X.w) (base := X.base) (CX := L2.CX X.prog X.w) I
  have bd : Binds X.K fd [("self" : Str), f] [] := .all hb
  refine PS.imp (ps_raise hc tk (pmk_oex (k := 1) (ds := []) (dvs := []) I.T I.iC I.tI F hr bd .nil (passes_call (E := fun _ _ _ => False) tk fun _ _ _ _ z => z.elim) hg e2 (pa_cons (s_hand ha) pa_nil hs) hd hs rfl)) fun D σ H ⟨G, ρ, S, Hin, A, h⟩ => ?_
  refine tS_try (m := fun ρ => M.bnd (m ρ) handM) (Ra := r0 X.K) A h fun v d G1 H1 S1 x1 A1 r1 h1 => ?_
  refine ⟨by simp, fun b hb0 => ⟨b, v, rfl, upd_same, fun dx hdx hne => ?_⟩⟩
  have hd1 : H1 dx = none := by rw [upd_ne hne] at hdx; exact hdx
  refine ⟨rfl, dx, [(f, v)], upd_same, by rw [upd_ne hne, upd_same], hd1, ?_⟩
  have e : upd (del (upd (upd (upd H1 b (exo b C none)) dx (exd dx [(f, v)])) b (exo b C (some dx))) b) dx (.xd [(f, v)]) = upd H1 dx (.xd [(f, v)]) := by
    funext c
    by_cases z : c = dx
    · rw [z, upd_same, upd_same]
    · rw [upd_ne z, upd_ne z]
      by_cases y : c = b
      · rw [y, del_same, hb0]
      · rw [del_ne y, upd_ne y, upd_ne z, upd_ne y]
  rw [e]
  have ex := Ext.new (o := .xd [(f, v)]) A1.st hd1
  exact h1 (.ref C) (some dx) σ G1 _ (ex.weak A1.env.hin) ⟨C, e1, rfl, dx, v, rfl, upd_same, Rl0.ext ex r1⟩ ⟨A1.env.ext ex, A1.st.new hd1⟩
end WB
namespace WB
open PySem L2

/-- classes of errors: raised without a word; taken by a clause or not; isinstance; with a field -/
structure CT where
  r0 : List Str
  r1 : List (Str × Str)
  sb : List (Str × Str × Bool)
  is : List (Str × Str × Bool)
  fl : List (Str × Str)
structure Ck where
  N : List Str
  sc : Scope
  fnB : Str → Bool
  fns : List (Str × Nat)
  cst : List (Str × Nat)
  ct : CT
  top : Bool
def Ck.blk (c : Ck) (scope : Scope) : Ck := { c with sc := relS scope c.sc, fnB := fun x => scope.names.lookup x == some .cell, top := false }
def noDbg (x : Str) : Bool := !(x == ("__debug__" : Str)) && !(x == ("__classdict__" : Str))
def visB (c : Ck) (i : Nat) (x : Str) : Bool := decide (c.N[i]? = some x) && noDbg x && (match c.sc.names.lookup x with | some .local => true | some .cell => true | some .free => true | _ => false)
def locB (c : Ck) (i : Nat) (x : Str) : Bool := decide (c.N[i]? = some x) && (match c.sc.names.lookup x with | some .local => true | some .cell => c.fnB x | _ => false)
def glB (c : Ck) (x : Str) : Bool := (match c.sc.names.lookup x with | some .globalImplicit => true | _ => false) && noDbg x
def noStar : Expr → Bool
  | .Starred .. => false
  | _ => true
def noSet : Expr → Bool
  | .Set .. => false
  | _ => true
def noSlice : Expr → Bool
  | .Slice .. => false
  | _ => true
def noComp : Expr → Bool
  | .ListComp .. => false
  | .SetComp .. => false
  | .DictComp .. => false
  | _ => true
def bopB : BOp → Operator → Bool
  | .add, .Add => true
  | .sub, .Sub => true
  | .mul, .Mult => true
  | .fdiv, .FloorDiv => true
  | .mod, .Mod => true
  | .pow, .Pow => true
  | _, _ => false
def copB : COp → CmpOp → Bool
  | .eq, .Eq => true
  | .ne, .NotEq => true
  | .lt, .Lt => true
  | .le, .LtE => true
  | .gt, .Gt => true
  | .ge, .GtE => true
  | .isN, .Is => true
  | .notN, .IsNot => true
  | .mem, .In => true
  | .nmem, .NotIn => true
  | _, _ => false
theorem bopB_eq {o : BOp} {op : Operator} (h : bopB o op = true) : op = bopOf o := by cases o <;> cases op <;> first | rfl | cases h
theorem copB_eq {o : COp} {op : CmpOp} (h : copB o op = true) : op = copOf o := by cases o <;> cases op <;> first | rfl | cases h
def biStr : Bi → Option Str
  | .len => some "len"
  | .all => some "all"
  | .sum => some "sum"
  | .tuple => some "tuple"
  | .list => some "list"
  | .abs => some "abs"
  | .int => some "int"
  | .repr => some "repr"
  | .sorted => some "sorted"
  | .str => some "str"
  | _ => none
def tyStr : Ty → Option Str
  | .int => some "int"
  | .bool => some "bool"
  | .str => some "str"
  | .tuple => some "tuple"
  | .list => some "list"
  | .dict => some "dict"
  | .tupleList => none
def plainT : Expr → Bool
  | .UnaryOp .Not _ _ => false
  | .BoolOp .. => false
  | .IfExp .. => false
  | .Compare .. => false
  | _ => true
mutual
def chkT (c : Ck) : T → Expr → Bool
  | .name i, .Name x _ => locB c i x
  | .tup ts, .Tuple es _ _ => chkTs c ts es
  | _, _ => false
def chkTs (c : Ck) : Ts → List Expr → Bool
  | .nil, [] => true
  | .cons t r, e :: es => noStar e && chkT c t e && chkTs c r es
  | _, _ => false
end
def isTup : Expr → Bool
  | .Tuple .. => true
  | _ => false
def strKeys : List Str → List (Option Expr) → Bool
  | [], [] => true
  | k :: ks, some (.Constant (.str x) _ _) :: r => decide (k = x) && strKeys ks r
  | _, _ => false
def subB (a b : List Nat) : Bool := a.all fun i => b.contains i
def isYes : B → Bool
  | .yes => true
  | _ => false
def chkIfW (f : Expr → Bool) (b : B) : List Expr → Bool
  | [] => isYes b
  | [x] => f x
  | _ => false
def isxB (c : Ck) (t : Str) (yes no : List Str) : Bool := yes.all (fun y => decide ((y, t, true) ∈ c.ct.is)) && no.all (fun y => decide ((y, t, false) ∈ c.ct.is)) && (!yes.isEmpty || !no.isEmpty)
def nmB (c : Ck) : List Str → List Expr → Bool
  | [], [] => true
  | t :: ts, .Name u _ :: es => decide (t = u) && glB c u && nmB c ts es
  | _, _ => false
def isxTB (c : Ck) (ts no : List Str) : Bool := !ts.isEmpty && !no.isEmpty && decide (ts.length ≤ 1000) && no.all fun y => ts.all fun t => decide ((y, t, false) ∈ c.ct.is)
def fldB (c : Ck) (f : Str) (ok : List Str) : Bool := ok.all fun y => decide ((y, f) ∈ c.ct.fl)
def isName : Expr → Bool
  | .Name _ _ => true
  | _ => false
mutual
def chkE (c : Ck) : E → Expr → Bool
  | .var i, .Name x _ => visB c i x
  | .ci i, .Constant (.int j) _ _ => decide (i = j)
  | .cs x, .Constant (.str y) _ _ => decide (x = y)
  | .cb b, .Constant (.bool d) _ _ => b == d
  | .cn, .Constant .none _ _ => true
  | .glob j, .Name x _ => glB c x && decide ((x, j) ∈ c.cst)
  | .bin o a b, .BinOp l op r _ => bopB o op && chkE c a l && chkE c b r
  | .neg a, .UnaryOp .USub x _ => chkE c a x
  | .not a, .UnaryOp .Not x _ => chkE c a x
  | .cmp o a b, .Compare l [op] [r] _ => copB o op && noSet r && chkE c a l && chkE c b r
  | .chain o o' a b d, .Compare l [op, op'] [r, r'] _ => copB o op && copB o' op' && noSet r' && chkE c a l && chkE c b r && chkE c d r'
  | .and a b, .BoolOp .And [e1, e2] _ => chkE c a e1 && chkE c b e2
  | .and a b, .BoolOp .And (e1 :: e2 :: e3 :: rest) pos => chkE c a e1 && chkE c b (.BoolOp .And (e2 :: e3 :: rest) pos)
  | .or a b, .BoolOp .Or [e1, e2] _ => chkE c a e1 && chkE c b e2
  | .or a b, .BoolOp .Or (e1 :: e2 :: e3 :: rest) pos => chkE c a e1 && chkE c b (.BoolOp .Or (e2 :: e3 :: rest) pos)
  | .ite t a b, .IfExp x y z _ => chkB c t x && chkE c a y && chkE c b z
  | .tup es, .Tuple xs _ _ => chkEs c es xs
  | .lst es, .List xs _ => chkEs c es xs
  | .lnew es, .List xs _ => chkEs c es xs
  | .sub a i, .Subscript x y _ => noSlice y && chkE c a x && chkE c i y
  | .dget a i, .Subscript x y _ => noSlice y && chkE c a x && chkE c i y
  | .lget a i, .Subscript x y _ => noSlice y && chkE c a x && chkE c i y
  | .sl a lo hi, .Subscript x (.Slice l u none _) _ => chkE c a x && chkO c lo l && chkO c hi u
  | .bi .sortedSet a, .Call (.Name n1 _) [.Call (.Name n2 _) [x] [] _] [] _ => decide (n1 = ("sorted" : Str)) && decide (n2 = ("set" : Str)) && glB c n1 && glB c n2 && noStar x && chkE c a x
  | .bi b a, .Call (.Name nm _) [x] [] _ => decide (biStr b = some nm) && glB c nm && noStar x && chkE c a x
  | .isi t a, .Call (.Name nm _) [x, .Name ty _] [] _ => decide (nm = ("isinstance" : Str)) && decide (tyStr t = some ty) && glB c nm && glB c ty && noStar x && chkE c a x
  | .call f es, .Call (.Name x _) xs [] _ => glB c x && decide ((x, f) ∈ c.fns) && chkEs c es xs
  | .lc own t it b e, .ListComp elt [⟨tg, iter, ifs, 0⟩] scope _ => blkC c.N c.sc scope own && chkI c it tg iter && chkT (c.blk scope) t tg && chkIfW (fun x => chkB (c.blk scope) b x) b ifs && chkE (c.blk scope) e elt && subB t.slots (own.map (·.2)) && noSet iter
  | .lc2 own vs1 t it b t2 it2 b2 e, .ListComp elt [⟨tg, iter, ifs, 0⟩, ⟨tg2, iter2, ifs2, 0⟩] scope _ => blkC c.N c.sc scope own && chkI c it tg iter && chkT (c.blk scope) t tg && chkIfW (fun x => chkB (c.blk scope) b x) b ifs && chkI (c.blk scope) it2 tg2 iter2 && chkT (c.blk scope) t2 tg2 && chkIfW (fun x => chkB (c.blk scope) b2 x) b2 ifs2 &&
      chkE (c.blk scope) e elt && subB t.slots (own.map (·.2)) && subB t2.slots vs1 && subB vs1 (own.map (·.2)) && noSet iter && noSet iter2
  | .dnew ks es, .Dict keys vals _ => strKeys ks keys && decide (keys ≠ []) && decide (keys.length ≤ 15) && decide (keys.length = vals.length) && chkEs c es vals
  | .isx a t yes no, .Call (.Name nm _) [x, .Name ty _] [] _ => decide (nm = ("isinstance" : Str)) && decide (t = ty) && glB c nm && glB c ty && noStar x && isxB c t yes no && chkE c a x
  | .fld a f ok, .Attribute x g _ => decide (f = g) && isName x && fldB c f ok && chkE c a x
  | .lrng a, .Call (.Name n1 _) [.Call (.Name n2 _) [x] [] _] [] _ => decide (n1 = ("list" : Str)) && decide (n2 = ("range" : Str)) && glB c n1 && glB c n2 && noStar x && chkE c a x
  | .dlit kvs, .Dict keys vals _ => dlitOk kvs keys vals
  | .revT a, .Subscript x (.Slice none none (some (.UnaryOp .USub (.Constant (.int 1) _ _) _)) _) _ => chkE c a x
  | .isiT a, .Call (.Name nm _) [x, .Tuple [.Name t1 _, .Name t2 _] _ _] [] _ => decide (nm = ("isinstance" : Str)) && decide (t1 = ("tuple" : Str)) && decide (t2 = ("list" : Str)) && glB c nm && glB c t1 && glB c t2 && noStar x && chkE c a x
  | .isxT a ts no, .Call (.Name nm _) [x, .Tuple es _ _] [] _ => decide (nm = ("isinstance" : Str)) && glB c nm && noStar x && nmB c ts es && isxTB c ts no && chkE c a x
  | .never, _ => true
  | .kdnew, .Dict [] [] _ => true
  | .minI a b, .Call (.Name nm _) [x, y] [] _ => decide (nm = ("min" : Str)) && glB c nm && noStar x && noStar y && chkE c a x && chkE c b y
  | .maxI a b, .Call (.Name nm _) [x, y] [] _ => decide (nm = ("max" : Str)) && glB c nm && noStar x && noStar y && chkE c a x && chkE c b y
  | .trng a, .Call (.Name n1 _) [.Call (.Name n2 _) [x] [] _] [] _ => decide (n1 = ("tuple" : Str)) && decide (n2 = ("range" : Str)) && glB c n1 && glB c n2 && noStar x && chkE c a x
  | _, _ => false
def chkEs (c : Ck) : Es → List Expr → Bool
  | .nil, [] => true
  | .cons e r, x :: xs => noStar x && chkE c e x && chkEs c r xs
  | _, _ => false
def chkO (c : Ck) : OE → Option Expr → Bool
  | .none, none => true
  | .some e, some x => chkE c e x
  | _, _ => false
def chkB (c : Ck) : B → Expr → Bool
  | .val (.cmp o a b), .Compare l [op] [r] _ => copB o op && noSet r && chkE c a l && chkE c b r
  | .val (.chain o o' a b d), .Compare l [op, op'] [r, r'] _ => copB o op && copB o' op' && noSet r' && chkE c a l && chkE c b r && chkE c d r'
  | .val e, x => plainT x && chkE c e x
  | .not b, .UnaryOp .Not x _ => chkB c b x
  | .and a b, .BoolOp .And [e1, e2] _ => chkB c a e1 && chkB c b e2
  | .and a b, .BoolOp .And (e1 :: e2 :: e3 :: rest) pos => chkB c a e1 && chkB c b (.BoolOp .And (e2 :: e3 :: rest) pos)
  | .or a b, .BoolOp .Or [e1, e2] _ => chkB c a e1 && chkB c b e2
  | .or a b, .BoolOp .Or (e1 :: e2 :: e3 :: rest) pos => chkB c a e1 && chkB c b (.BoolOp .Or (e2 :: e3 :: rest) pos)
  | _, _ => false
def chkI (c : Ck) : I → Expr → Expr → Bool
  | .rng1 a, _, .Call (.Name nm _) [x] [] _ => decide (nm = ("range" : Str)) && glB c nm && noStar x && chkE c a x
  | .rng2 a b, _, .Call (.Name nm _) [x, y] [] _ => decide (nm = ("range" : Str)) && glB c nm && noStar x && noStar y && chkE c a x && chkE c b y
  | .rng3 a b d, _, .Call (.Name nm _) [x, y, z] [] _ => decide (nm = ("range" : Str)) && glB c nm && noStar x && noStar y && noStar z && chkE c a x && chkE c b y && chkE c d z
  | .enum e, .Tuple _ _ _, .Call (.Name nm _) [x] [] _ => decide (nm = ("enumerate" : Str)) && glB c nm && noStar x && chkE c e x
  | .zip a b, .Tuple _ _ _, .Call (.Name nm _) [x, y] [] _ => decide (nm = ("zip" : Str)) && glB c nm && noStar x && noStar y && chkE c a x && chkE c b y
  | .seq e, _, x => chkE c e x
  | .keys e, _, x => chkE c e x
  | _, _, _ => false
end

/-- where one stands, as the look has it -/
structure Good (X : Cx) (c : Ck) (W : WX) (Φ : Tb) (k : Nat) : Prop where
  N : X.N = c.N
  nd : c.N.Nodup
  sc : X.env.scope = c.sc
  fn : X.fn = c.fnB
  calm : X.calm = true
  kind : c.sc.kind = .function
  tk : Takes X W
  po : PassesOwn (model X.prog X.w) X.A X.env X.xe
  room : RoomG k X.A
  fns : ∀ x i, (x, i) ∈ c.fns → ∃ f fd ps, X.mg x = some (.ref f) ∧ PySem.W.keepIn X.K (.ref f) = true ∧ Binds X.K fd ps [] ∧ FnG X.prog X.w X.K X.mg X.base k f fd ps (Φ.fn i)
  cst : ∀ x j d, (x, j) ∈ c.cst → Φ.cst j = some d → ∃ v u, X.mg x = some u ∧ RelV v u ∧ ∀ G H, Rl0 X.K G H v d
  sm : ∃ o, X.base.get? sysModules = some o
  es : c.top = true → X.stack = X.env :: X.outer ∧ X.env.frame = some X.env.locals
  r0 : ∀ x ∈ c.ct.r0, Rs0Ok X.K X.mg x
  r1 : ∀ x f, (x, f) ∈ c.ct.r1 → Rs1Ok X.K X.mg x f
  sb : ∀ x t b, (x, t, b) ∈ c.ct.sb → SubOk X.K X.mg x t b
  is : ∀ x t b, (x, t, b) ∈ c.ct.is → IsOk X.K X.mg x t b
  fl : ∀ x f, (x, f) ∈ c.ct.fl → FldOk X.K x f
  blt : ∀ x ∈ (["len", "all", "sum", "tuple", "list", "abs", "int", "repr", "sorted", "set", "isinstance", "bool", "str", "dict", "range", "enumerate", "zip", "min", "max"] : List Str), X.mg x = none
section
variable {X : Cx} {c : Ck} {W : WX} {Φ : Tb} {k : Nat}
theorem Good.hu (g : Good X c W Φ k) : X.A.units + 65 < cLine := by have := g.room.room.un; omega
theorem Good.vis (g : Good X c W Φ k) {i : Nat} {x : Str} (h : visB c i x = true) : X.N[i]? = some x ∧ Vis X.env.scope x ∧ (x == ("__debug__" : Str)) = false ∧ (x == ("__classdict__" : Str)) = false := by
  unfold visB noDbg at h
  simp only [Bool.and_eq_true, decide_eq_true_eq, Bool.not_eq_true'] at h
  obtain ⟨⟨h1, h2, h3⟩, h4⟩ := h
  refine ⟨by rw [g.N]; exact h1, ?_, h2, h3⟩
  unfold Vis
  rw [g.sc]
  split at h4
  · rename_i q; exact .inl q
  · rename_i q; exact .inr (.inl q)
  · rename_i q; exact .inr (.inr q)
  · cases h4
theorem Good.loc (g : Good X c W Φ k) {i : Nat} {x : Str} (h : locB c i x = true) : X.N[i]? = some x ∧ L2.Loc X.env.scope x ∧ (X.fn x = true ∨ X.env.scope.names.lookup x = some .local) := by
  unfold locB at h
  simp only [Bool.and_eq_true, decide_eq_true_eq] at h
  obtain ⟨h1, h4⟩ := h
  refine ⟨by rw [g.N]; exact h1, ?_⟩
  unfold L2.Loc
  rw [g.sc, g.fn]
  split at h4
  · rename_i q; exact ⟨.inl q, .inr q⟩
  · rename_i q; exact ⟨.inr q, .inl h4⟩
  · cases h4
theorem Good.gl (g : Good X c W Φ k) {x : Str} (h : glB c x = true) : Gl X x ∧ (x == ("__debug__" : Str)) = false := by
  unfold glB noDbg at h
  simp only [Bool.and_eq_true, Bool.not_eq_true'] at h
  obtain ⟨h4, h2, _⟩ := h
  refine ⟨?_, h2⟩
  show X.env.scope.names.lookup x = _
  rw [g.sc]
  split at h4
  · rename_i q; exact q
  · cases h4
theorem star1 {e : Expr} {es : List Expr} {env : PySem.Env} (h : noStar e = true) : starEach (e :: es) env = (false, eval e env) :: starEach es env := by
  cases e <;> first | rfl | cases h
theorem starAny : ∀ {es : List Expr} {pos : Pos} {env : PySem.Env}, es.all noStar = true → (backTo pos (starEach es env)).any (·.1) = false
  | [], _, _, _ => rfl
  | e :: es, pos, env, h => by
    rw [List.all_cons, Bool.and_eq_true] at h
    rw [star1 h.1]
    show (false || (backTo pos (starEach es env)).any (·.1)) = false
    rw [starAny h.2] <;> rfl
theorem noMark {b : Expr} (op : CmpOp) (h : noSet b = true) : behindInMarks op b = false := by
  cases b <;> first | rfl | cases h
theorem noFold {e : Expr} (h : noSet e = true) : ∀ env x, foldedSetIterable e env x = pure x := by
  intro env x
  cases e <;> first | rfl | cases h
theorem plainIx {e : Expr} (h : noSlice e = true) : PlainIx e := by
  intro o i
  cases e <;> first | rfl | cases h
theorem plainTest {e : Expr} {env : PySem.Env} (h : plainT e = true) : ∀ whole, isTrue e env whole = (do let v ← whole; standAt e.pos; holding [v] (truthy v)) := by
  intro whole
  cases e with
  | UnaryOp o x p => cases o <;> first | rfl | cases h
  | BoolOp _ _ _ => cases h
  | IfExp _ _ _ _ => cases h
  | Compare _ _ _ _ => cases h
  | _ => rfl
theorem Good.blk (g : Good X c W Φ k) (scope : Scope) (hk : scope.kind = .function) (s : Shared) (H : Hp) (C : Addr) (cl : List (Str × Addr)) (fp : List Addr) : Good (blkOf X scope s H C cl fp) (c.blk scope) W0 Φ k where
  N := g.N
  nd := g.nd
  sc := by show relS scope X.env.scope = relS scope c.sc; rw [g.sc]
  fn := rfl
  calm := g.calm
  kind := hk
  tk := takes0
  po := PassesOwn.never
  room := g.room
  fns := g.fns
  cst := g.cst
  sm := g.sm
  es := fun z => by cases z
  r0 := g.r0
  r1 := g.r1
  sb := g.sb
  is := g.is
  fl := g.fl
  blt := g.blt
theorem Good.tr (g : Good X c W Φ k) {W' : WX} {pn : List (Addr × Obj)} {xe : Value → Shared → Prop} (tk : Takes (X.tr pn xe) W') (po : PassesOwn (model X.prog X.w) X.A X.env xe) : Good (X.tr pn xe) c W' Φ k where
  N := g.N
  nd := g.nd
  sc := g.sc
  fn := g.fn
  calm := g.calm
  kind := g.kind
  tk := tk
  po := po
  room := g.room
  fns := g.fns
  cst := g.cst
  sm := g.sm
  es := g.es
  r0 := g.r0
  r1 := g.r1
  sb := g.sb
  is := g.is
  fl := g.fl
  blt := g.blt
/-- what stands in an except suite too -/
structure GoodQ (X : Cx) (c : Ck) : Prop where
  N : X.N = c.N
  nd : c.N.Nodup
  sc : X.env.scope = c.sc
  fn : X.fn = c.fnB
  kind : c.sc.kind = .function
  is : ∀ x t b, (x, t, b) ∈ c.ct.is → IsOk X.K X.mg x t b
  fl : ∀ x f, (x, f) ∈ c.ct.fl → FldOk X.K x f
  isi : X.mg "isinstance" = none
theorem Good.q (g : Good X c W Φ k) (a : Addr) (pn : List (Addr × Obj)) : GoodQ (X.suite a pn) c := ⟨g.N, g.nd, g.sc, g.fn, g.kind, g.is, g.fl, g.blt _ (by simp)⟩
theorem GoodQ.vis (g : GoodQ X c) {i : Nat} {x : Str} (h : visB c i x = true) : X.N[i]? = some x ∧ Vis X.env.scope x ∧ (x == ("__debug__" : Str)) = false ∧ (x == ("__classdict__" : Str)) = false := by
  unfold visB noDbg at h
  simp only [Bool.and_eq_true, decide_eq_true_eq, Bool.not_eq_true'] at h
  obtain ⟨⟨h1, h2, h3⟩, h4⟩ := h
  refine ⟨by rw [g.N]; exact h1, ?_, h2, h3⟩
  unfold Vis
  rw [g.sc]
  split at h4
  · rename_i q; exact .inl q
  · rename_i q; exact .inr (.inl q)
  · rename_i q; exact .inr (.inr q)
  · cases h4
theorem GoodQ.loc (g : GoodQ X c) {i : Nat} {x : Str} (h : locB c i x = true) : X.N[i]? = some x ∧ L2.Loc X.env.scope x ∧ (X.fn x = true ∨ X.env.scope.names.lookup x = some .local) := by
  unfold locB at h
  simp only [Bool.and_eq_true, decide_eq_true_eq] at h
  obtain ⟨h1, h4⟩ := h
  refine ⟨by rw [g.N]; exact h1, ?_⟩
  unfold L2.Loc
  rw [g.sc, g.fn]
  split at h4
  · rename_i q; exact ⟨.inl q, .inr q⟩
  · rename_i q; exact ⟨.inr q, .inl h4⟩
  · cases h4
theorem gl_of {X : Cx} {c : Ck} (hs : X.env.scope = c.sc) {x : Str} (h : glB c x = true) : Gl X x ∧ (x == ("__debug__" : Str)) = false := by
  unfold glB noDbg at h
  simp only [Bool.and_eq_true, Bool.not_eq_true'] at h
  obtain ⟨h4, h2, _⟩ := h
  refine ⟨?_, h2⟩
  show X.env.scope.names.lookup x = _
  rw [hs]
  split at h4
  · rename_i q; exact q
  · cases h4
theorem s_isx1 {X : Cx} {c : Ck} {W : WX} (hs : X.env.scope = c.sc) (hi : X.mg "isinstance" = none) (his : ∀ x t b, (x, t, b) ∈ c.ct.is → IsOk X.K X.mg x t b) {a : Expr} {p p2 pos : Pos} {m : Env → M D} {t : Str} {yes no : List Str} (h1 : glB c "isinstance" = true) (h2 : glB c t = true) (h3 : noStar a = true) (h4 : isxB c t yes no = true) (ha : PE X a (tE X.K W m)) :
    PE X (.Call (.Name "isinstance" p) [a, .Name t p2] [] pos) (tE X.K W fun ρ => M.bnd (m ρ) (isxM yes no)) := by
  unfold isxB at h4
  simp only [Bool.and_eq_true, List.all_eq_true, decide_eq_true_eq] at h4
  obtain ⟨⟨q1, q2⟩, q3⟩ := h4
  refine s_isx (fun x hx => his x t true (q1 x hx)) (fun x hx => his x t false (q2 x hx)) ?_ (gl_of hs h2).1 (gl_of hs h2).2 (gl_of hs h1).1 hi ha (star1 h3)
  cases yes with
  | cons _ _ => exact .inl (by simp)
  | nil =>
    cases no with
    | cons _ _ => exact .inr (by simp)
    | nil => simp at q3
theorem nmB_ok {X : Cx} {c : Ck} (hs : X.env.scope = c.sc) : ∀ {ts : List Str} {es : List Expr}, nmB c ts es = true → Paired (NmOk X) ts es := by
  intro ts es
  fun_induction nmB c ts es with
  | case1 => exact fun _ => .nil
  | case2 t ts u p es ih =>
    intro h
    simp only [Bool.and_eq_true, decide_eq_true_eq] at h
    obtain ⟨⟨h1, h2⟩, h3⟩ := h
    subst h1
    exact .cons ⟨p, rfl, (gl_of hs h2).1, (gl_of hs h2).2⟩ (ih h3)
  | case3 => exact fun h => by cases h
theorem s_isxT1 {X : Cx} {c : Ck} {W : WX} (hs : X.env.scope = c.sc) (hi : X.mg "isinstance" = none) (his : ∀ x t b, (x, t, b) ∈ c.ct.is → IsOk X.K X.mg x t b) {a : Expr} {p tpos pos : Pos} {kk : Nat} {m : Env → M D} {ts no : List Str} {es : List Expr} (h1 : glB c "isinstance" = true) (h2 : noStar a = true) (h3 : nmB c ts es = true) (h4 : isxTB c ts no = true) (ha : PE X a (tE X.K W m)) :
    PE X (.Call (.Name "isinstance" p) [a, .Tuple es kk tpos] [] pos) (tE X.K W fun ρ => M.bnd (m ρ) (isxM [] no)) := by
  unfold isxTB at h4
  simp only [Bool.and_eq_true, List.all_eq_true, decide_eq_true_eq, Bool.not_eq_true'] at h4
  obtain ⟨⟨⟨q1, q2⟩, q3⟩, q4⟩ := h4
  exact s_isxT (fun x hx t ht => his x t false (q4 x hx t ht)) q3 (fun e => by rw [e] at q2; cases q2) (fun e => by rw [e] at q1; cases q1) (nmB_ok hs h3) (gl_of hs h1).1 hi ha (star1 h2)
theorem s_fld1 {X : Cx} {c : Ck} {W : WX} (hfl : ∀ x f, (x, f) ∈ c.ct.fl → FldOk X.K x f) {a : Expr} {pos : Pos} {m : Env → M D} {f : Str} {ok : List Str} (h1 : isName a = true) (h2 : fldB c f ok = true) (ha : PE X a (tE X.K W m)) : PE X (.Attribute a f pos) (tE X.K W fun ρ => M.bnd (m ρ) (fldM f ok)) := by
  unfold fldB at h2
  simp only [List.all_eq_true, decide_eq_true_eq] at h2
  refine s_fld (fun x hx => hfl x f (h2 x hx)) ?_ ha
  cases a <;> first | rfl | cases h1
mutual
theorem sndT {X : Cx} {c : Ck} {W : WX} {Φ : Tb} {k : Nat} (g : Good X c W Φ k) : ∀ (t : T) (e : Expr), chkT c t e = true → PG X e (tG X.K t)
  | .name i, .Name x pos, h => by
    obtain ⟨h1, h2, h3⟩ := g.loc (by simpa [chkT] using h)
    exact g_name (pg_name (by rw [g.N]; exact g.nd) h1 h2 h3)
  | .tup ts, .Tuple es kk pos, h => by
    have h : chkTs c ts es = true := by simpa [chkT] using h
    obtain ⟨h1, h2, h3⟩ := sndTs g ts es h
    exact g_tup g.calm h1 h2 h3
theorem sndTs {X : Cx} {c : Ck} {W : WX} {Φ : Tb} {k : Nat} (g : Good X c W Φ k) : ∀ (ts : Ts) (es : List Expr), chkTs c ts es = true → PGs X es (tGs X.K ts) ∧ (assignEach es X.env).length = ts.len ∧ (assignEach es X.env).findIdx? (·.1) = none
  | .nil, [], _ => ⟨g_nil, rfl, rfl⟩
  | .cons t r, e :: es, h => by
    simp only [chkTs, Bool.and_eq_true] at h
    obtain ⟨⟨h1, h2⟩, h3⟩ := h
    obtain ⟨q1, q2, q3⟩ := sndTs g r es h3
    have e1 : assignEach (e :: es) X.env = (false, assign e X.env) :: assignEach es X.env := by cases e <;> first | rfl | cases h1
    refine ⟨g_cons (sndT g t e h2) q1 (by rw [e1] <;> rfl), by rw [e1, List.length_cons, q2] <;> rfl, ?_⟩
    rw [e1, List.findIdx?_cons]
    simp [q3]
  | .nil, _ :: _, h => by simp [chkTs] at h
  | .cons _ _, [], h => by simp [chkTs] at h
end
end
end WB
namespace WB
open PySem L2

theorem boot_bi : ∀ b nm, biStr b = some nm → nm ≠ "__name__" ∧ (bootBuiltins nm = some (.builtin (match b with | .len => "len" | .all => "all" | .sum => "sum" | .abs => "abs" | .sorted => "sorted" | _ => "repr")) ∨ bootBuiltins nm = some (.type (match b with | .tuple => "tuple" | .list => "list" | .str => "str" | _ => "int"))) := by
  intro b nm h
  cases b <;> simp only [biStr, Option.some.injEq, reduceCtorEq] at h <;> subst h <;> first | exact ⟨by decide, .inl (by decide +kernel)⟩ | exact ⟨by decide, .inr (by decide +kernel)⟩
section
variable {X : Cx} {c : Ck} {W : WX} {Φ : Tb} {k : Nat}
theorem s_bi1 (g : Good X c W Φ k) {a : Expr} {p pos : Pos} {nm : Str} {m : Env → M D} (b : Bi) (hb : biStr b = some nm) (hg : glB c nm = true) (hs : noStar a = true) (ha : PE X a (tE X.K W m)) : PE X (.Call (.Name nm p) [a] [] pos) (tE X.K W fun ρ => M.bnd (m ρ) (biM b)) := by
  obtain ⟨g1, g2⟩ := g.gl hg
  have st : starEach [a] X.env = (false, eval a X.env) :: starEach [] X.env := star1 hs
  have hu := g.hu
  cases b <;> simp only [biStr, Option.some.injEq, reduceCtorEq] at hb <;> subst hb
  · exact s_bi _ (fun ta h => pe_callB c_len g1 (g.blt _ (by simp)) (by decide +kernel) (pa_cons h pa_nil st) (by decide) g2 st) ha
  · exact s_bi _ (fun ta h => pe_callB (c_all g.calm) g1 (g.blt _ (by simp)) (by decide +kernel) (pa_cons h pa_nil st) (by decide) g2 st) ha
  · exact s_bi _ (fun ta h => pe_callB (c_sum g.calm) g1 (g.blt _ (by simp)) (by decide +kernel) (pa_cons h pa_nil st) (by decide) g2 st) ha
  · exact s_bi _ (fun ta h => pe_callTy c_tuple g1 (g.blt _ (by simp)) (by decide +kernel) (pa_cons h pa_nil st) (by decide) g2 st) ha
  · exact s_bi _ (fun ta h => pe_callTy c_list g1 (g.blt _ (by simp)) (by decide +kernel) (pa_cons h pa_nil st) (by decide) g2 st) ha
  · exact s_bi _ (fun ta h => pe_callB c_abs g1 (g.blt _ (by simp)) (by decide +kernel) (pa_cons h pa_nil st) (by decide) g2 st) ha
  · exact s_bi _ (fun ta h => pe_callTy c_int g1 (g.blt _ (by simp)) (by decide +kernel) (pa_cons h pa_nil st) (by decide) g2 st) ha
  · exact s_bi _ (fun ta h => pe_callB (c_repr hu g.room.gd g.sm) g1 (g.blt _ (by simp)) (by decide +kernel) (pa_cons h pa_nil st) (by decide) g2 st) ha
  · exact s_sorted g1 (g.blt _ (by simp)) ha st
  · exact s_bi _ (fun ta h => pe_callTy c_str g1 (g.blt _ (by simp)) (by decide +kernel) (pa_cons h pa_nil st) (by decide) g2 st) ha
theorem s_isi1 (g : Good X c W Φ k) {a : Expr} {p p2 pos : Pos} {nm : Str} {m : Env → M D} (t : Ty) (ht : tyStr t = some nm) (hg : glB c ("isinstance" : Str) = true) (hg2 : glB c nm = true) (hs : noStar a = true) (ha : PE X a (tE X.K W m)) :
    PE X (.Call (.Name "isinstance" p) [a, .Name nm p2] [] pos) (tE X.K W fun ρ => M.bnd (m ρ) fun x => M.ofO ((isiD t x).map .bl)) := by
  obtain ⟨g1, _⟩ := g.gl hg
  obtain ⟨g2, _⟩ := g.gl hg2
  have st : starEach [a, .Name nm p2] X.env = (false, eval a X.env) :: starEach [.Name nm p2] X.env := star1 hs
  cases t <;> simp only [tyStr, Option.some.injEq, reduceCtorEq] at ht <;> subst ht <;>
    exact s_isi _ (by intro z; cases z) (pe_bltn g2 (g.blt _ (by simp)) (by decide +kernel) rfl) g1 (g.blt _ (by simp)) ha st
theorem s_tchain {W : WX} {a b d : Expr} {pos : Pos} {m1 m2 m3 : Env → M D} (hu : X.A.units + 65 < cLine) (o o' : COp) (hm : lastMarks [copOf o, copOf o'] [b, d] = false) (ha : PE X a (tE X.K W m1)) (hb : PE X b (tE X.K W m2)) (hd : PE X d (tE X.K W m3)) :
    PT X (.Compare a [copOf o, copOf o'] [b, d] pos) (tT X.K W fun ρ => M.bnd (M.bnd (m1 ρ) fun x => M.bnd (m2 ρ) fun y => M.bnd (M.ofO (cmpD o x y)) fun k => if k then M.bnd (m3 ρ) fun z => M.ofO ((cmpD o' y z).map .bl) else M.ret (.bl false)) fun x => M.ofO (truD x)) := by
  refine PT.imp (pt_chain (o_cmp hu o) (o_cmp hu o') ha hb hd hm) fun σ H Q ⟨G, ρ, S, Hin, A, h⟩ => ?_
  have h : Post X.K W σ (rEq Bool) G H (M.bnd (M.bnd (m1 ρ) fun x => M.bnd (m2 ρ) fun y => M.bnd (M.ofO (cmpD o x y)) fun k => if k then M.bnd (m3 ρ) fun z => M.ofO ((cmpD o' y z).map .bl) else M.ret (.bl false)) (fun x => M.ofO (truD x)) S) Q := h
  rw [bnd_assoc] at h
  refine tM_bnd rEq.mono A h fun v x G1 H1 S1 x1 A1 r1 h1 => ?_
  rw [bnd_assoc] at h1
  refine tM_bnd rEq.mono A1 h1 fun u y G2 H2 S2 x2 A2 r2 h2 => ?_
  cases q : cmpD o x y with
  | none => rw [q] at h2; exact h2.elim
  | some k =>
    rw [q] at h2
    have h2 : Post X.K W σ (rEq Bool) G2 H2 (M.bnd (if k = true then M.bnd (m3 ρ) fun z => M.ofO ((cmpD o' y z).map .bl) else M.ret (.bl false)) (fun x => M.ofO (truD x)) S2) Q := h2
    refine ⟨G2, S2, x, y, .bl k, r1.1.ext x2, r2.1, A2.st, by show (cmpD o x y).map D.bl = _; rw [q]; rfl, fun w G3 H3 x3 r3 R3 => ⟨k, r3.1.toBl, ?_⟩⟩
    have A3 : At X.K Hin G3 H3 σ ρ S2 := ⟨A2.env.ext x3, R3⟩
    have h3 := Post.from rEq.mono x3 h2
    cases k with
    | false => exact ⟨false, rfl, h3 false G3 H3 (Ext.refl _ _ _) rfl R3⟩
    | true =>
      have h3 : Post X.K W σ (rEq Bool) G3 H3 (M.bnd (M.bnd (m3 ρ) fun z => M.ofO ((cmpD o' y z).map .bl)) (fun x => M.ofO (truD x)) S2) Q := h3
      rw [bnd_assoc] at h3
      refine tM_bnd rEq.mono A3 h3 fun z f G4 H4 S4 x4 A4 r4 h4 => ?_
      cases q2 : cmpD o' y f with
      | none => rw [q2] at h4; exact h4.elim
      | some k2 =>
        rw [q2] at h4
        exact ⟨G4, S4, y, f, .bl k2, (r2.1.ext x3).ext x4, r4.1, A4.st, by show (cmpD o' y f).map D.bl = _; rw [q2]; rfl, fun w2 G5 H5 x5 r5 R5 => ⟨k2, r5.1.toBl, h4 k2 G5 H5 x5 rfl R5⟩⟩
/-- the pairs of a dict's display -/
theorem pps_of {pos : Pos} : ∀ {ks : List Str} {keys : List (Option Expr)} {vals : List Expr} {ms : List (Env → M D)}, strKeys ks keys = true → keys.length = vals.length → ks.length = ms.length → Paired (fun e m => PE X e (tE X.K W m)) vals ms → PPs X pos keys vals ((ks.zip ms).map fun p => pairRd X.K W p.1 p.2)
  | [], [], [], [], _, _, _, _ => pps_nil
  | [], [], _ :: _, _, _, h, _, _ => by simp at h
  | [], [], [], _ :: _, _, _, h, _ => by simp at h
  | [], _ :: _, _, _, h, _, _, _ => by simp [strKeys] at h
  | _ :: _, [], _, _, h, _, _, _ => by simp [strKeys] at h
  | k :: ks, key :: keys, [], _, _, h, _, _ => by simp at h
  | k :: ks, key :: keys, v :: vals, [], _, _, h, _ => by simp at h
  | k :: ks, key :: keys, v :: vals, m :: ms, h, h1, h2, .cons r t => by
    match key, h with
    | some (.Constant (.str x) j p), h =>
      simp only [strKeys, Bool.and_eq_true, decide_eq_true_eq] at h
      obtain ⟨rfl, h⟩ := h
      exact pps_cons pe_str (s_hand r) (pps_of h (by simpa using h1) (by simpa using h2) t)
theorem strKeys_len : ∀ {ks : List Str} {keys : List (Option Expr)}, strKeys ks keys = true → keys.length = ks.length ∧ keys.all (·.isSome) = true
  | [], [], _ => ⟨rfl, rfl⟩
  | [], _ :: _, h => by simp [strKeys] at h
  | _ :: _, [], h => by simp [strKeys] at h
  | k :: ks, key :: keys, h => by
    match key, h with
    | some (.Constant (.str x) j p), h =>
      simp only [strKeys, Bool.and_eq_true] at h
      obtain ⟨h1, h2⟩ := strKeys_len h.2
      exact ⟨by simp [h1], by simp only [List.all_cons, h2]; rfl⟩
theorem subB_mem {a b : List Nat} (h : subB a b = true) : ∀ i ∈ a, i ∈ b := fun i hi => by
  unfold subB at h
  exact List.contains_iff_mem.mp (List.all_eq_true.mp h i hi)
theorem blkC_kind {N : List Str} {sc scope : Scope} {own : List (Str × Nat)} (h : blkC N sc scope own = true) : scope.kind = .function := (blkOk_by h).kind
end
section
theorem iE_var {c : Ck} {i} {w0 : Expr} (h : chkE c (E.var i) w0 = true) : ∃ x pos, w0 = .Name x pos := by
  unfold chkE at h
  split at h <;> first | contradiction | exact ⟨_, _, rfl⟩ | (cases h; done) | (simp [biStr] at h; done) | (rename_i q; injection q with q1 q2; subst q1; simp [biStr] at h; done)
theorem iE_ci {c : Ck} {i} {w0 : Expr} (h : chkE c (E.ci i) w0 = true) : ∃ j a b, w0 = .Constant (.int j) a b := by
  unfold chkE at h
  split at h <;> first | contradiction | exact ⟨_, _, _, rfl⟩ | (cases h; done) | (simp [biStr] at h; done) | (rename_i q; injection q with q1 q2; subst q1; simp [biStr] at h; done)
theorem iE_cs {c : Ck} {x} {w0 : Expr} (h : chkE c (E.cs x) w0 = true) : ∃ y a b, w0 = .Constant (.str y) a b := by
  unfold chkE at h
  split at h <;> first | contradiction | exact ⟨_, _, _, rfl⟩ | (cases h; done) | (simp [biStr] at h; done) | (rename_i q; injection q with q1 q2; subst q1; simp [biStr] at h; done)
theorem iE_cb {c : Ck} {x} {w0 : Expr} (h : chkE c (E.cb x) w0 = true) : ∃ y a b, w0 = .Constant (.bool y) a b := by
  unfold chkE at h
  split at h <;> first | contradiction | exact ⟨_, _, _, rfl⟩ | (cases h; done) | (simp [biStr] at h; done) | (rename_i q; injection q with q1 q2; subst q1; simp [biStr] at h; done)
theorem iE_cn {c : Ck} {w0 : Expr} (h : chkE c (E.cn) w0 = true) : ∃ a b, w0 = .Constant .none a b := by
  unfold chkE at h
  split at h <;> first | contradiction | exact ⟨_, _, rfl⟩ | (cases h; done) | (simp [biStr] at h; done) | (rename_i q; injection q with q1 q2; subst q1; simp [biStr] at h; done)
theorem iE_glob {c : Ck} {j} {w0 : Expr} (h : chkE c (E.glob j) w0 = true) : ∃ x pos, w0 = .Name x pos := by
  unfold chkE at h
  split at h <;> first | contradiction | exact ⟨_, _, rfl⟩ | (cases h; done) | (simp [biStr] at h; done) | (rename_i q; injection q with q1 q2; subst q1; simp [biStr] at h; done)
theorem iE_bin {c : Ck} {o a b} {w0 : Expr} (h : chkE c (E.bin o a b) w0 = true) : ∃ l op r pos, w0 = .BinOp l op r pos := by
  unfold chkE at h
  split at h <;> first | contradiction | exact ⟨_, _, _, _, rfl⟩ | (cases h; done) | (simp [biStr] at h; done) | (rename_i q; injection q with q1 q2; subst q1; simp [biStr] at h; done)
theorem iE_neg {c : Ck} {a} {w0 : Expr} (h : chkE c (E.neg a) w0 = true) : ∃ x pos, w0 = .UnaryOp .USub x pos := by
  unfold chkE at h
  split at h <;> first | contradiction | exact ⟨_, _, rfl⟩ | (cases h; done) | (simp [biStr] at h; done) | (rename_i q; injection q with q1 q2; subst q1; simp [biStr] at h; done)
theorem iE_not {c : Ck} {a} {w0 : Expr} (h : chkE c (E.not a) w0 = true) : ∃ x pos, w0 = .UnaryOp .Not x pos := by
  unfold chkE at h
  split at h <;> first | contradiction | exact ⟨_, _, rfl⟩ | (cases h; done) | (simp [biStr] at h; done) | (rename_i q; injection q with q1 q2; subst q1; simp [biStr] at h; done)
theorem iE_cmp {c : Ck} {o a b} {w0 : Expr} (h : chkE c (E.cmp o a b) w0 = true) : ∃ l op r pos, w0 = .Compare l [op] [r] pos := by
  unfold chkE at h
  split at h <;> first | contradiction | exact ⟨_, _, _, _, rfl⟩ | (cases h; done) | (simp [biStr] at h; done) | (rename_i q; injection q with q1 q2; subst q1; simp [biStr] at h; done)
theorem iE_chain {c : Ck} {o o' a b d} {w0 : Expr} (h : chkE c (E.chain o o' a b d) w0 = true) : ∃ l op op' r r' pos, w0 = Expr.Compare l [op, op'] [r, r'] pos := by
  unfold chkE at h
  split at h <;> first | contradiction | exact ⟨_, _, _, _, _, _, rfl⟩ | (cases h; done) | (simp [biStr] at h; done) | (rename_i q; injection q with q1 q2; subst q1; simp [biStr] at h; done)
theorem iE_ite {c : Ck} {t a b} {w0 : Expr} (h : chkE c (E.ite t a b) w0 = true) : ∃ x y z pos, w0 = .IfExp x y z pos := by
  unfold chkE at h
  split at h <;> first | contradiction | exact ⟨_, _, _, _, rfl⟩ | (cases h; done) | (simp [biStr] at h; done) | (rename_i q; injection q with q1 q2; subst q1; simp [biStr] at h; done)
theorem iE_tup {c : Ck} {es} {w0 : Expr} (h : chkE c (E.tup es) w0 = true) : ∃ xs kk pos, w0 = .Tuple xs kk pos := by
  unfold chkE at h
  split at h <;> first | contradiction | exact ⟨_, _, _, rfl⟩ | (cases h; done) | (simp [biStr] at h; done) | (rename_i q; injection q with q1 q2; subst q1; simp [biStr] at h; done)
theorem iE_lst {c : Ck} {es} {w0 : Expr} (h : chkE c (E.lst es) w0 = true) : ∃ xs pos, w0 = .List xs pos := by
  unfold chkE at h
  split at h <;> first | contradiction | exact ⟨_, _, rfl⟩ | (cases h; done) | (simp [biStr] at h; done) | (rename_i q; injection q with q1 q2; subst q1; simp [biStr] at h; done)
theorem iE_lnew {c : Ck} {es} {w0 : Expr} (h : chkE c (E.lnew es) w0 = true) : ∃ xs pos, w0 = .List xs pos := by
  unfold chkE at h
  split at h <;> first | contradiction | exact ⟨_, _, rfl⟩ | (cases h; done) | (simp [biStr] at h; done) | (rename_i q; injection q with q1 q2; subst q1; simp [biStr] at h; done)
theorem iE_sub {c : Ck} {a i} {w0 : Expr} (h : chkE c (E.sub a i) w0 = true) : ∃ x y pos, w0 = .Subscript x y pos := by
  unfold chkE at h
  split at h <;> first | contradiction | exact ⟨_, _, _, rfl⟩ | (cases h; done) | (simp [biStr] at h; done) | (rename_i q; injection q with q1 q2; subst q1; simp [biStr] at h; done)
theorem iE_dget {c : Ck} {a i} {w0 : Expr} (h : chkE c (E.dget a i) w0 = true) : ∃ x y pos, w0 = .Subscript x y pos := by
  unfold chkE at h
  split at h <;> first | contradiction | exact ⟨_, _, _, rfl⟩ | (cases h; done) | (simp [biStr] at h; done) | (rename_i q; injection q with q1 q2; subst q1; simp [biStr] at h; done)
theorem iE_lget {c : Ck} {a i} {w0 : Expr} (h : chkE c (E.lget a i) w0 = true) : ∃ x y pos, w0 = .Subscript x y pos := by
  unfold chkE at h
  split at h <;> first | contradiction | exact ⟨_, _, _, rfl⟩ | (cases h; done) | (simp [biStr] at h; done) | (rename_i q; injection q with q1 q2; subst q1; simp [biStr] at h; done)
theorem iE_sl {c : Ck} {a lo hi} {w0 : Expr} (h : chkE c (E.sl a lo hi) w0 = true) : ∃ x l u p2 pos, w0 = .Subscript x (.Slice l u none p2) pos := by
  unfold chkE at h
  split at h <;> first | contradiction | exact ⟨_, _, _, _, _, rfl⟩ | (cases h; done) | (simp [biStr] at h; done) | (rename_i q; injection q with q1 q2; subst q1; simp [biStr] at h; done)
theorem iE_lrng {c : Ck} {a : E} {w0 : Expr} (h : chkE c (E.lrng a) w0 = true) : ∃ n1 p1 n2 p2 x pos2 pos, w0 = .Call (.Name n1 p1) [.Call (.Name n2 p2) [x] [] pos2] [] pos := by
  unfold chkE at h
  split at h <;> first | contradiction | exact ⟨_, _, _, _, _, _, _, rfl⟩ | (cases h; done) | (simp [biStr] at h; done) | (rename_i q; injection q with q1 q2; subst q1; simp [biStr] at h; done)
theorem iE_trng {c : Ck} {a : E} {w0 : Expr} (h : chkE c (E.trng a) w0 = true) : ∃ n1 p1 n2 p2 x pos2 pos, w0 = .Call (.Name n1 p1) [.Call (.Name n2 p2) [x] [] pos2] [] pos := by
  unfold chkE at h
  split at h <;> first | contradiction | exact ⟨_, _, _, _, _, _, _, rfl⟩ | (cases h; done) | (simp [biStr] at h; done) | (rename_i q; injection q with q1 q2; subst q1; simp [biStr] at h; done)
theorem iE_isx {c : Ck} {t : Str} {a : E} {yes no : List Str} {w0 : Expr} (h : chkE c (E.isx a t yes no) w0 = true) : ∃ nm p x ty p2 pos, w0 = .Call (.Name nm p) [x, .Name ty p2] [] pos := by
  unfold chkE at h
  split at h <;> first | contradiction | exact ⟨_, _, _, _, _, _, rfl⟩ | (cases h; done) | (simp [biStr] at h; done) | (rename_i q; injection q with q1 q2; subst q1; simp [biStr] at h; done)
theorem iE_fld {c : Ck} {f : Str} {a : E} {ok : List Str} {w0 : Expr} (h : chkE c (E.fld a f ok) w0 = true) : ∃ x g pos, w0 = .Attribute x g pos := by
  unfold chkE at h
  split at h <;> first | contradiction | exact ⟨_, _, _, rfl⟩ | (cases h; done) | (simp [biStr] at h; done) | (rename_i q; injection q with q1 q2; subst q1; simp [biStr] at h; done)
theorem iE_isi {c : Ck} {t a} {w0 : Expr} (h : chkE c (E.isi t a) w0 = true) : ∃ nm p x ty p2 pos, w0 = .Call (.Name nm p) [x, .Name ty p2] [] pos := by
  unfold chkE at h
  split at h <;> first | contradiction | exact ⟨_, _, _, _, _, _, rfl⟩ | (cases h; done) | (simp [biStr] at h; done) | (rename_i q; injection q with q1 q2; subst q1; simp [biStr] at h; done)
theorem iE_lc {c : Ck} {own t it b e} {w0 : Expr} (h : chkE c (E.lc own t it b e) w0 = true) : ∃ elt tg iter ifs scope pos, w0 = .ListComp elt [⟨tg, iter, ifs, 0⟩] scope pos := by
  unfold chkE at h
  split at h <;> first | contradiction | exact ⟨_, _, _, _, _, _, rfl⟩ | (cases h; done) | (simp [biStr] at h; done) | (rename_i q; injection q with q1 q2; subst q1; simp [biStr] at h; done)
theorem iE_lc2 {c : Ck} {own vs1 t it b t2 it2 b2 e} {w0 : Expr} (h : chkE c (E.lc2 own vs1 t it b t2 it2 b2 e) w0 = true) : ∃ elt tg iter ifs tg2 iter2 ifs2 scope pos, w0 = .ListComp elt [⟨tg, iter, ifs, 0⟩, ⟨tg2, iter2, ifs2, 0⟩] scope pos := by
  unfold chkE at h
  split at h <;> first | contradiction | exact ⟨_, _, _, _, _, _, _, _, _, rfl⟩ | (cases h; done) | (simp [biStr] at h; done) | (rename_i q; injection q with q1 q2; subst q1; simp [biStr] at h; done)
theorem iE_dnew {c : Ck} {ks es} {w0 : Expr} (h : chkE c (E.dnew ks es) w0 = true) : ∃ keys vals pos, w0 = .Dict keys vals pos := by
  unfold chkE at h
  split at h <;> first | contradiction | exact ⟨_, _, _, rfl⟩ | (cases h; done) | (simp [biStr] at h; done) | (rename_i q; injection q with q1 q2; subst q1; simp [biStr] at h; done)
theorem iE_biss {c : Ck} {a} {w0 : Expr} (h : chkE c (E.bi .sortedSet a) w0 = true) : ∃ n1 p1 n2 p2 x pos2 pos, w0 = .Call (.Name n1 p1) [.Call (.Name n2 p2) [x] [] pos2] [] pos := by
  unfold chkE at h
  split at h <;> first | contradiction | exact ⟨_, _, _, _, _, _, _, rfl⟩ | (cases h; done) | (simp [biStr] at h; done) | (rename_i q; injection q with q1 q2; subst q1; simp [biStr] at h; done)
theorem iE_and {c : Ck} {a b} {w0 : Expr} (h : chkE c (E.and a b) w0 = true) : ∃ e1 e2 rest pos, w0 = .BoolOp .And (e1 :: e2 :: rest) pos := by
  unfold chkE at h
  split at h <;> first | contradiction | exact ⟨_, _, _, _, rfl⟩ | (cases h; done) | (simp [biStr] at h; done) | (rename_i q; injection q with q1 q2; subst q1; simp [biStr] at h; done)
theorem iE_or {c : Ck} {a b} {w0 : Expr} (h : chkE c (E.or a b) w0 = true) : ∃ e1 e2 rest pos, w0 = .BoolOp .Or (e1 :: e2 :: rest) pos := by
  unfold chkE at h
  split at h <;> first | contradiction | exact ⟨_, _, _, _, rfl⟩ | (cases h; done) | (simp [biStr] at h; done) | (rename_i q; injection q with q1 q2; subst q1; simp [biStr] at h; done)
theorem iE_call {c : Ck} {f es} {w0 : Expr} (h : chkE c (E.call f es) w0 = true) : ∃ x p xs pos, w0 = .Call (.Name x p) xs [] pos := by
  unfold chkE at h
  split at h <;> first | contradiction | exact ⟨_, _, _, _, rfl⟩ | (cases h; done) | (simp [biStr] at h; done) | (rename_i q; injection q with q1 q2; subst q1; simp [biStr] at h; done)
theorem iE_bilen {c : Ck} {a} {w0 : Expr} (h : chkE c (E.bi .len a) w0 = true) : ∃ nm p x pos, w0 = .Call (.Name nm p) [x] [] pos := by
  unfold chkE at h
  split at h <;> first | contradiction | exact ⟨_, _, _, _, rfl⟩ | (cases h; done) | (simp [biStr] at h; done) | (rename_i q; injection q with q1 q2; subst q1; simp [biStr] at h; done)
theorem iE_biall {c : Ck} {a} {w0 : Expr} (h : chkE c (E.bi .all a) w0 = true) : ∃ nm p x pos, w0 = .Call (.Name nm p) [x] [] pos := by
  unfold chkE at h
  split at h <;> first | contradiction | exact ⟨_, _, _, _, rfl⟩ | (cases h; done) | (simp [biStr] at h; done) | (rename_i q; injection q with q1 q2; subst q1; simp [biStr] at h; done)
theorem iE_bisum {c : Ck} {a} {w0 : Expr} (h : chkE c (E.bi .sum a) w0 = true) : ∃ nm p x pos, w0 = .Call (.Name nm p) [x] [] pos := by
  unfold chkE at h
  split at h <;> first | contradiction | exact ⟨_, _, _, _, rfl⟩ | (cases h; done) | (simp [biStr] at h; done) | (rename_i q; injection q with q1 q2; subst q1; simp [biStr] at h; done)
theorem iE_bituple {c : Ck} {a} {w0 : Expr} (h : chkE c (E.bi .tuple a) w0 = true) : ∃ nm p x pos, w0 = .Call (.Name nm p) [x] [] pos := by
  unfold chkE at h
  split at h <;> first | contradiction | exact ⟨_, _, _, _, rfl⟩ | (cases h; done) | (simp [biStr] at h; done) | (rename_i q; injection q with q1 q2; subst q1; simp [biStr] at h; done)
theorem iE_bilist {c : Ck} {a} {w0 : Expr} (h : chkE c (E.bi .list a) w0 = true) : ∃ nm p x pos, w0 = .Call (.Name nm p) [x] [] pos := by
  unfold chkE at h
  split at h <;> first | contradiction | exact ⟨_, _, _, _, rfl⟩ | (cases h; done) | (simp [biStr] at h; done) | (rename_i q; injection q with q1 q2; subst q1; simp [biStr] at h; done)
theorem iE_biabs {c : Ck} {a} {w0 : Expr} (h : chkE c (E.bi .abs a) w0 = true) : ∃ nm p x pos, w0 = .Call (.Name nm p) [x] [] pos := by
  unfold chkE at h
  split at h <;> first | contradiction | exact ⟨_, _, _, _, rfl⟩ | (cases h; done) | (simp [biStr] at h; done) | (rename_i q; injection q with q1 q2; subst q1; simp [biStr] at h; done)
theorem iE_biint {c : Ck} {a} {w0 : Expr} (h : chkE c (E.bi .int a) w0 = true) : ∃ nm p x pos, w0 = .Call (.Name nm p) [x] [] pos := by
  unfold chkE at h
  split at h <;> first | contradiction | exact ⟨_, _, _, _, rfl⟩ | (cases h; done) | (simp [biStr] at h; done) | (rename_i q; injection q with q1 q2; subst q1; simp [biStr] at h; done)
theorem iE_kdnew {c : Ck} {w0 : Expr} (h : chkE c E.kdnew w0 = true) : ∃ pos, w0 = .Dict [] [] pos := by
  unfold chkE at h
  split at h <;> first | contradiction | exact ⟨_, rfl⟩ | (cases h; done) | (rename_i q; injection q with q1 q2; subst q1; simp [biStr] at h; done)
theorem iE_minI {c : Ck} {a b : E} {w0 : Expr} (h : chkE c (E.minI a b) w0 = true) : ∃ nm p x y pos, w0 = .Call (.Name nm p) [x, y] [] pos := by
  unfold chkE at h
  split at h <;> first | contradiction | exact ⟨_, _, _, _, _, rfl⟩ | (cases h; done) | (rename_i q; injection q with q1 q2; subst q1; simp [biStr] at h; done)
theorem iE_maxI {c : Ck} {a b : E} {w0 : Expr} (h : chkE c (E.maxI a b) w0 = true) : ∃ nm p x y pos, w0 = .Call (.Name nm p) [x, y] [] pos := by
  unfold chkE at h
  split at h <;> first | contradiction | exact ⟨_, _, _, _, _, rfl⟩ | (cases h; done) | (rename_i q; injection q with q1 q2; subst q1; simp [biStr] at h; done)
theorem iE_dlit {c : Ck} {kvs} {w0 : Expr} (h : chkE c (E.dlit kvs) w0 = true) : ∃ keys vals pos, w0 = .Dict keys vals pos := by
  unfold chkE at h
  split at h <;> first | contradiction | exact ⟨_, _, _, rfl⟩ | (cases h; done) | (simp [biStr] at h; done) | (rename_i q; injection q with q1 q2; subst q1; simp [biStr] at h; done)
theorem iE_revT {c : Ck} {a} {w0 : Expr} (h : chkE c (E.revT a) w0 = true) : ∃ x j p1 p2 p3 pos, w0 = .Subscript x (.Slice none none (some (.UnaryOp .USub (.Constant (.int 1) j p1) p2)) p3) pos := by
  unfold chkE at h
  split at h <;> first | contradiction | exact ⟨_, _, _, _, _, _, rfl⟩ | (cases h; done) | (simp [biStr] at h; done) | (rename_i q; injection q with q1 q2; subst q1; simp [biStr] at h; done)
theorem iE_isiT {c : Ck} {a} {w0 : Expr} (h : chkE c (E.isiT a) w0 = true) : ∃ nm p x t1 p1 t2 p2 kk tp pos, w0 = .Call (.Name nm p) [x, .Tuple [.Name t1 p1, .Name t2 p2] kk tp] [] pos := by
  unfold chkE at h
  split at h <;> first | contradiction | exact ⟨_, _, _, _, _, _, _, _, _, _, rfl⟩ | (cases h; done) | (simp [biStr] at h; done) | (rename_i q; injection q with q1 q2; subst q1; simp [biStr] at h; done)
theorem iE_isxT {c : Ck} {a ts no} {w0 : Expr} (h : chkE c (E.isxT a ts no) w0 = true) : ∃ nm p x es kk tp pos, w0 = .Call (.Name nm p) [x, .Tuple es kk tp] [] pos := by
  unfold chkE at h
  split at h <;> first | contradiction | exact ⟨_, _, _, _, _, _, _, rfl⟩ | (cases h; done) | (simp [biStr] at h; done) | (rename_i q; injection q with q1 q2; subst q1; simp [biStr] at h; done)
theorem iE_bistr {c : Ck} {a} {w0 : Expr} (h : chkE c (E.bi .str a) w0 = true) : ∃ nm p x pos, w0 = .Call (.Name nm p) [x] [] pos := by
  unfold chkE at h
  split at h <;> first | contradiction | exact ⟨_, _, _, _, rfl⟩ | (cases h; done) | (simp [biStr] at h; done) | (rename_i q; injection q with q1 q2; subst q1; simp [biStr] at h; done)
theorem iE_birepr {c : Ck} {a} {w0 : Expr} (h : chkE c (E.bi .repr a) w0 = true) : ∃ nm p x pos, w0 = .Call (.Name nm p) [x] [] pos := by
  unfold chkE at h
  split at h <;> first | contradiction | exact ⟨_, _, _, _, rfl⟩ | (cases h; done) | (simp [biStr] at h; done) | (rename_i q; injection q with q1 q2; subst q1; simp [biStr] at h; done)
theorem iE_bisorted {c : Ck} {a} {w0 : Expr} (h : chkE c (E.bi .sorted a) w0 = true) : ∃ nm p x pos, w0 = .Call (.Name nm p) [x] [] pos := by
  unfold chkE at h
  split at h <;> first | contradiction | exact ⟨_, _, _, _, rfl⟩ | (cases h; done) | (simp [biStr] at h; done) | (rename_i q; injection q with q1 q2; subst q1; simp [biStr] at h; done)
end
def isCmp : E → Bool
  | .cmp .. => true
  | .chain .. => true
  | _ => false
theorem iE_biNo {c : Ck} {b : Bi} {a : E} {w0 : Expr} (hb : biStr b = none) (hs : (match b with | .sortedSet => true | _ => false) = false) (h : chkE c (.bi b a) w0 = true) : False := by
  unfold chkE at h
  split at h <;> first | contradiction | (rename_i q; injection q with q1 q2; subst q1; simp only [hb, Bool.and_eq_true, decide_eq_true_eq, reduceCtorEq, false_and] at h; done) | (rename_i q; injection q with q1 q2; subst q1; cases hs; done) | skip
theorem iB_val {c : Ck} {e : E} {w0 : Expr} (h : chkB c (.val e) w0 = true) : chkE c e w0 = true ∧ (isCmp e = false → plainT w0 = true) := by
  unfold chkB at h
  split at h
  all_goals first | contradiction | skip
  · rename_i q; cases q; exact ⟨by simpa only [chkE] using h, fun z => by cases z⟩
  · rename_i q; cases q; exact ⟨by simpa only [chkE] using h, fun z => by cases z⟩
  · rename_i q _ _; cases q; rw [Bool.and_eq_true] at h; exact ⟨h.2, fun _ => h.1⟩
theorem iB_not {c : Ck} {b : B} {w0 : Expr} (h : chkB c (.not b) w0 = true) : ∃ x pos, w0 = .UnaryOp .Not x pos := by
  unfold chkB at h
  split at h <;> first | contradiction | exact ⟨_, _, rfl⟩ | cases h
theorem iB_yes {c : Ck} {w0 : Expr} (h : chkB c .yes w0 = true) : False := by
  unfold chkB at h
  cases h
theorem iB_and {c : Ck} {a b : B} {w0 : Expr} (h : chkB c (.and a b) w0 = true) : ∃ e1 e2 rest pos, w0 = .BoolOp .And (e1 :: e2 :: rest) pos := by
  unfold chkB at h
  split at h <;> first | contradiction | exact ⟨_, _, _, _, rfl⟩ | cases h
theorem iB_or {c : Ck} {a b : B} {w0 : Expr} (h : chkB c (.or a b) w0 = true) : ∃ e1 e2 rest pos, w0 = .BoolOp .Or (e1 :: e2 :: rest) pos := by
  unfold chkB at h
  split at h <;> first | contradiction | exact ⟨_, _, _, _, rfl⟩ | cases h
theorem iI_rng1 {c : Ck} {a : E} {tg w0 : Expr} (h : chkI c (.rng1 a) tg w0 = true) : ∃ nm p x pos, w0 = .Call (.Name nm p) [x] [] pos := by
  unfold chkI at h
  split at h <;> first | contradiction | exact ⟨_, _, _, _, rfl⟩ | cases h
theorem iI_rng2 {c : Ck} {a b : E} {tg w0 : Expr} (h : chkI c (.rng2 a b) tg w0 = true) : ∃ nm p x y pos, w0 = .Call (.Name nm p) [x, y] [] pos := by
  unfold chkI at h
  split at h <;> first | contradiction | exact ⟨_, _, _, _, _, rfl⟩ | cases h
theorem iI_rng3 {c : Ck} {a b d : E} {tg w0 : Expr} (h : chkI c (.rng3 a b d) tg w0 = true) : ∃ nm p x y z pos, w0 = .Call (.Name nm p) [x, y, z] [] pos := by
  unfold chkI at h
  split at h <;> first | contradiction | exact ⟨_, _, _, _, _, _, rfl⟩ | cases h
theorem iI_enum {c : Ck} {a : E} {tg w0 : Expr} (h : chkI c (.enum a) tg w0 = true) : ∃ ts kk tp nm p x pos, tg = .Tuple ts kk tp ∧ w0 = .Call (.Name nm p) [x] [] pos := by
  unfold chkI at h
  split at h <;> first | contradiction | exact ⟨_, _, _, _, _, _, _, rfl, rfl⟩ | cases h
theorem iI_zip {c : Ck} {a b : E} {tg w0 : Expr} (h : chkI c (.zip a b) tg w0 = true) : ∃ ts kk tp nm p x y pos, tg = .Tuple ts kk tp ∧ w0 = .Call (.Name nm p) [x, y] [] pos := by
  unfold chkI at h
  split at h <;> first | contradiction | exact ⟨_, _, _, _, _, _, _, _, rfl, rfl⟩ | cases h
theorem sndV {X : Cx} {c : Ck} {W : WX} {Φ : Tb} {e : E} {w0 : Expr} (hh : chkE c e w0 = true → PE X w0 (tE X.K W (den Φ e))) (h : chkB c (.val e) w0 = true) (hc : isCmp e = false) : PT X w0 (tT X.K W (denB Φ (.val e))) ∧ ∀ o es p, w0 = .BoolOp o es p → PW X w0 (tT X.K W (denB Φ (.val e))) := by
  obtain ⟨h1, h2⟩ := iB_val h
  exact ⟨s_tval (hh h1) (plainTest (h2 hc)), fun o es p q => by subst q; cases h2 hc⟩
theorem iIf {c : Ck} {b : B} {xs : List Expr} (h : chkIfW (fun x => chkB c b x) b xs = true) : (b = .yes ∧ xs = []) ∨ ∃ x, xs = [x] ∧ chkB c b x = true := by
  unfold chkIfW at h
  split at h
  · refine .inl ⟨?_, rfl⟩
    cases b <;> first | rfl | cases h
  · exact .inr ⟨_, rfl, h⟩
  · cases h
theorem sndIf {X : Cx} {c : Ck} {W : WX} {Φ : Tb} {b : B} {xs : List Expr} (hb : ∀ x, chkB c b x = true → PT X x (tT X.K W (denB Φ b)) ∧ ∀ o es p, x = .BoolOp o es p → PW X x (tT X.K W (denB Φ b))) (h : chkIfW (fun x => chkB c b x) b xs = true) : PTs X xs (tT X.K W (denB Φ b)) := by
  obtain ⟨rfl, rfl⟩ | ⟨x, rfl, h'⟩ := iIf h
  · exact PTs.imp pts_nil fun σ H Q ⟨G, ρ, S, Hin, A, q⟩ => q true G H (Ext.refl _ _ _) rfl A.st
  · exact pts_one (hb x h').1
mutual
theorem sndE {X : Cx} {c : Ck} {W : WX} {Φ : Tb} {k : Nat} (g : Good X c W Φ k) : ∀ (e : E) (x : Expr), chkE c e x = true → PE X x (tE X.K W (den Φ e))
  | .var i, w0, h => by
    obtain ⟨x, pos, rfl⟩ := iE_var h
    obtain ⟨h1, h2, h3, h4⟩ := g.vis (by simpa only [chkE] using h)
    exact s_var (pe_var h1 h2 h3 h4)
  | .ci i, w0, h => by
    obtain ⟨j, a, b, rfl⟩ := iE_ci h
    have e : i = j := by simpa [chkE] using h
    subst e; exact s_ci
  | .cs x, w0, h => by
    obtain ⟨y, a, b, rfl⟩ := iE_cs h
    have e : x = y := by simpa [chkE] using h
    subst e; exact s_cs
  | .cb x, w0, h => by
    obtain ⟨y, a, b, rfl⟩ := iE_cb h
    have e : x = y := by simpa [chkE] using h
    subst e; exact s_cb
  | .cn, w0, h => by
    obtain ⟨a, b, rfl⟩ := iE_cn h
    exact s_cn
  | .glob j, w0, h => by
    obtain ⟨x, pos, rfl⟩ := iE_glob h
    simp only [chkE, Bool.and_eq_true, decide_eq_true_eq] at h
    obtain ⟨g1, g2⟩ := g.gl h.1
    cases e : Φ.cst j with
    | none =>
      refine ⟨fun pins s σ H Q I q => ?_⟩
      obtain ⟨G, ρ, S, Hin, A, q⟩ := q
      simp only [den, e] at q
      exact q.elim
    | some d =>
      obtain ⟨v, u, q1, q2, q3⟩ := g.cst x j d h.2 e
      have r := s_const (W := W) (pe_glob (pos := pos) g1 q1 q2 g2) (d := d)
      refine PE.imp (pe_glob (pos := pos) g1 q1 q2 g2) fun σ H Q ⟨G, ρ, S, Hin, A, q⟩ => ?_
      simp only [den, e] at q
      exact q v G H (Ext.refl _ _ _) (RlF.base (q3 G H)) A.st
  | .bin o a b, w0, h => by
    obtain ⟨l, op, r, pos, rfl⟩ := iE_bin h
    simp only [chkE, Bool.and_eq_true] at h
    have e := bopB_eq h.1.1
    subst e
    exact s_bin o (sndE g a l h.1.2) (sndE g b r h.2)
  | .neg a, w0, h => by
    obtain ⟨x, pos, rfl⟩ := iE_neg h
    exact s_neg (sndE g a x (by simpa only [chkE] using h))
  | .not a, w0, h => by
    obtain ⟨x, pos, rfl⟩ := iE_not h
    exact s_not (sndE g a x (by simpa only [chkE] using h))
  | .cmp o a b, w0, h => by
    obtain ⟨l, op, r, pos, rfl⟩ := iE_cmp h
    simp only [chkE, Bool.and_eq_true] at h
    obtain ⟨⟨⟨h1, h2⟩, h3⟩, h4⟩ := h
    have e := copB_eq h1
    subst e
    exact s_cmp g.hu o (noMark _ h2) (sndE g a l h3) (sndE g b r h4)
  | .chain o o' a b d, w0, h => by
    obtain ⟨l, op, op', r, r', pos, rfl⟩ := iE_chain h
    simp only [chkE, Bool.and_eq_true] at h
    obtain ⟨⟨⟨⟨⟨h1, h1'⟩, h2⟩, h3⟩, h4⟩, h5⟩ := h
    have e := copB_eq h1
    have e' := copB_eq h1'
    subst e e'
    exact s_chain g.hu o o' (noMark _ h2) (sndE g a l h3) (sndE g b r h4) (sndE g d r' h5)
  | .and a b, w0, h => by
    obtain ⟨e1, e2, rest, pos, rfl⟩ := iE_and h
    cases rest with
    | nil =>
      simp only [chkE, Bool.and_eq_true] at h
      exact s_and (sndE g a e1 h.1) (pe_one (sndE g b e2 h.2))
    | cons e3 rest =>
      simp only [chkE, Bool.and_eq_true] at h
      exact s_and (sndE g a e1 h.1) (sndE g b _ h.2)
  | .or a b, w0, h => by
    obtain ⟨e1, e2, rest, pos, rfl⟩ := iE_or h
    cases rest with
    | nil =>
      simp only [chkE, Bool.and_eq_true] at h
      exact s_or (sndE g a e1 h.1) (pe_one (sndE g b e2 h.2))
    | cons e3 rest =>
      simp only [chkE, Bool.and_eq_true] at h
      exact s_or (sndE g a e1 h.1) (sndE g b _ h.2)
  | .ite t a b, w0, h => by
    obtain ⟨x, y, z, pos, rfl⟩ := iE_ite h
    simp only [chkE, Bool.and_eq_true] at h
    exact s_ite (sndB g t x h.1.1).1 (sndE g a y h.1.2) (sndE g b z h.2)
  | .tup es, w0, h => by
    obtain ⟨xs, kk, pos, rfl⟩ := iE_tup h
    exact s_tup (sndEs g es xs (by simpa only [chkE] using h)).1
  | .lst es, w0, h => by
    obtain ⟨xs, pos, rfl⟩ := iE_lst h
    exact s_lst (sndEs g es xs (by simpa only [chkE] using h)).1
  | .lnew es, w0, h => by
    obtain ⟨xs, pos, rfl⟩ := iE_lnew h
    exact s_lnew (sndEs g es xs (by simpa only [chkE] using h)).1
  | .sub a i, w0, h => by
    obtain ⟨x, y, pos, rfl⟩ := iE_sub h
    simp only [chkE, Bool.and_eq_true] at h
    exact s_sub g.hu (plainIx h.1.1) (sndE g a x h.1.2) (sndE g i y h.2)
  | .dget a i, w0, h => by
    obtain ⟨x, y, pos, rfl⟩ := iE_dget h
    simp only [chkE, Bool.and_eq_true] at h
    exact s_dget (by have := g.hu; omega) (plainIx h.1.1) (sndE g a x h.1.2) (sndE g i y h.2)
  | .lget a i, w0, h => by
    obtain ⟨x, y, pos, rfl⟩ := iE_lget h
    simp only [chkE, Bool.and_eq_true] at h
    exact s_lget (plainIx h.1.1) (sndE g a x h.1.2) (sndE g i y h.2)
  | .sl a lo hi, w0, h => by
    obtain ⟨x, l, u, p2, pos, rfl⟩ := iE_sl h
    simp only [chkE, Bool.and_eq_true] at h
    exact s_sl (sndE g a x h.1.1) (sndO g lo l h.1.2) (sndO g hi u h.2)
  | .isi t a, w0, h => by
    obtain ⟨nm, p, x, ty, p2, pos, rfl⟩ := iE_isi h
    simp only [chkE, Bool.and_eq_true, decide_eq_true_eq] at h
    obtain ⟨⟨⟨⟨⟨h1, h2⟩, h3⟩, h4⟩, h5⟩, h6⟩ := h
    subst h1
    exact s_isi1 g t h2 h3 h4 h5 (sndE g a x h6)
  | .lrng a, w0, h => by
    obtain ⟨n1, p1, n2, p2, x, pos2, pos, rfl⟩ := iE_lrng h
    simp only [chkE, Bool.and_eq_true, decide_eq_true_eq] at h
    obtain ⟨⟨⟨⟨⟨h1, h2⟩, h3⟩, h4⟩, h5⟩, h6⟩ := h
    subst h1 h2
    exact s_lrng g.calm (g.gl h3).1 (g.blt _ (by simp)) (g.gl h4).1 (g.blt _ (by simp)) (sndE g a x h6) (star1 h5)
  | .trng a, w0, h => by
    obtain ⟨n1, p1, n2, p2, x, pos2, pos, rfl⟩ := iE_trng h
    simp only [chkE, Bool.and_eq_true, decide_eq_true_eq] at h
    obtain ⟨⟨⟨⟨⟨h1, h2⟩, h3⟩, h4⟩, h5⟩, h6⟩ := h
    subst h1 h2
    exact s_trng g.calm (g.gl h3).1 (g.blt _ (by simp)) (g.gl h4).1 (g.blt _ (by simp)) (sndE g a x h6) (star1 h5)
  | .isx a t yes no, w0, h => by
    obtain ⟨nm, p, x, ty, p2, pos, rfl⟩ := iE_isx h
    simp only [chkE, Bool.and_eq_true, decide_eq_true_eq] at h
    obtain ⟨⟨⟨⟨⟨⟨h1, h2⟩, h3⟩, h4⟩, h5⟩, h6⟩, h7⟩ := h
    subst h1
    subst h2
    exact s_isx1 g.sc (g.blt _ (by simp)) g.is h3 h4 h5 h6 (sndE g a x h7)
  | .fld a f ok, w0, h => by
    obtain ⟨x, gg, pos, rfl⟩ := iE_fld h
    simp only [chkE, Bool.and_eq_true, decide_eq_true_eq] at h
    obtain ⟨⟨⟨h1, h2⟩, h3⟩, h4⟩ := h
    subst h1
    exact s_fld1 g.fl h2 h3 (sndE g a x h4)
  | .call f es, w0, h => by
    obtain ⟨x, p, xs, pos, rfl⟩ := iE_call h
    cases xs with
    | nil =>
      simp only [chkE, Bool.and_eq_true, decide_eq_true_eq] at h
      obtain ⟨g1, g2⟩ := g.gl h.1.1
      obtain ⟨fa, fd, ps, q1, q2, q3, q4⟩ := g.fns x f h.1.2
      cases es with
      | nil => exact s_call0 q4 g.room g1 q1 q2 q3 g.tk g2
      | cons e r => simp [chkEs] at h
    | cons y ys =>
      simp only [chkE, Bool.and_eq_true, decide_eq_true_eq] at h
      obtain ⟨g1, g2⟩ := g.gl h.1.1
      obtain ⟨fa, fd, ps, q1, q2, q3, q4⟩ := g.fns x f h.1.2
      obtain ⟨pa, ns, _⟩ := sndEs g es (y :: ys) h.2
      rw [List.all_cons, Bool.and_eq_true] at ns
      exact s_call q4 g.room g1 q1 q2 q3 g.tk pa g2 (star1 ns.1) (starAny ns.2)
  | .lc own t it b e, w0, h => by
    obtain ⟨elt, tg, iter, ifs, scope, pos, rfl⟩ := iE_lc h
    simp only [chkE, Bool.and_eq_true] at h
    obtain ⟨⟨⟨⟨⟨⟨h1, h2⟩, h3⟩, h4⟩, h5⟩, h6⟩, h7⟩ := h
    have gb := g.blk scope (blkC_kind h1)
    exact s_lc g.calm (by rw [g.N]; exact g.nd) (sndI g it tg iter h2) (by rw [g.N, g.sc]; exact blkOk_by h1) (fun s H C cl fp => sndT (gb s H C cl fp) t tg h3) (fun s H C cl fp => sndIf (fun x => sndB (gb s H C cl fp) b x) h4) (fun s H C cl fp => sndE (gb s H C cl fp) e elt h5) (noFold h7 _) (subB_mem h6)
  | .lc2 own vs1 t it b t2 it2 b2 e, w0, h => by
    obtain ⟨elt, tg, iter, ifs, tg2, iter2, ifs2, scope, pos, rfl⟩ := iE_lc2 h
    simp only [chkE, Bool.and_eq_true] at h
    obtain ⟨⟨⟨⟨⟨⟨⟨⟨⟨⟨⟨⟨h1, h2⟩, h3⟩, h4⟩, h5⟩, h6⟩, h7⟩, h8⟩, h9⟩, h10⟩, h11⟩, h12⟩, h13⟩ := h
    have gb := g.blk scope (blkC_kind h1)
    exact s_lc2 g.calm (by rw [g.N]; exact g.nd) (sndI g it tg iter h2) (by rw [g.N, g.sc]; exact blkOk_by h1) (subB_mem h11) (fun s H C cl fp => sndT (gb s H C cl fp) t tg h3) (fun s H C cl fp => sndIf (fun x => sndB (gb s H C cl fp) b x) h4)
      (fun s H C cl fp => sndI (gb s H C cl fp) it2 tg2 iter2 h5) (fun s H C cl fp => sndT (gb s H C cl fp) t2 tg2 h6) (fun s H C cl fp => sndIf (fun x => sndB (gb s H C cl fp) b2 x) h7) (fun s H C cl fp => sndE (gb s H C cl fp) e elt h8) (noFold h12 _) (noFold h13) (subB_mem h9) (subB_mem h10)
  | .dnew ks es, w0, h => by
    obtain ⟨keys, vals, pos, rfl⟩ := iE_dnew h
    simp only [chkE, Bool.and_eq_true, decide_eq_true_eq] at h
    obtain ⟨⟨⟨⟨h1, h2⟩, h3⟩, h4⟩, h5⟩ := h
    obtain ⟨_, _, pr⟩ := sndEs g es vals h5
    obtain ⟨l1, l2⟩ := strKeys_len h1
    have l3 : ks.length = (es.ms Φ).length := by rw [← l1, h4]; exact Paired.length pr
    refine PE.imp (s_dnew (W := W) (pps_of h1 h4 l3 pr) l3 l1 l2 h4 h2 h3) fun σ H Q q => ?_
    obtain ⟨G, ρ, S, Hin, A, q⟩ := q
    refine ⟨G, ρ, S, Hin, A, ?_⟩
    simp only [den, dens_eq] at q
    exact q
  | .bi .sortedSet a, w0, h => by
    obtain ⟨n1, p1, n2, p2, x, pos2, pos, rfl⟩ := iE_biss h
    simp only [chkE, Bool.and_eq_true, decide_eq_true_eq] at h
    obtain ⟨⟨⟨⟨⟨h1, h2⟩, h3⟩, h4⟩, h5⟩, h6⟩ := h
    subst h1 h2
    exact s_sortedSet g.calm (by have := g.hu; omega) (g.gl h3).1 (g.blt _ (by simp)) (g.gl h4).1 (g.blt _ (by simp)) (sndE g a x h6) (star1 h5)
  | .bi .len a, w0, h => by
    obtain ⟨nm, p, x, pos, rfl⟩ := iE_bilen h
    simp only [chkE, Bool.and_eq_true, decide_eq_true_eq] at h
    exact s_bi1 g _ h.1.1.1 h.1.1.2 h.1.2 (sndE g a x h.2)
  | .bi .all a, w0, h => by
    obtain ⟨nm, p, x, pos, rfl⟩ := iE_biall h
    simp only [chkE, Bool.and_eq_true, decide_eq_true_eq] at h
    exact s_bi1 g _ h.1.1.1 h.1.1.2 h.1.2 (sndE g a x h.2)
  | .bi .sum a, w0, h => by
    obtain ⟨nm, p, x, pos, rfl⟩ := iE_bisum h
    simp only [chkE, Bool.and_eq_true, decide_eq_true_eq] at h
    exact s_bi1 g _ h.1.1.1 h.1.1.2 h.1.2 (sndE g a x h.2)
  | .bi .tuple a, w0, h => by
    obtain ⟨nm, p, x, pos, rfl⟩ := iE_bituple h
    simp only [chkE, Bool.and_eq_true, decide_eq_true_eq] at h
    exact s_bi1 g _ h.1.1.1 h.1.1.2 h.1.2 (sndE g a x h.2)
  | .bi .list a, w0, h => by
    obtain ⟨nm, p, x, pos, rfl⟩ := iE_bilist h
    simp only [chkE, Bool.and_eq_true, decide_eq_true_eq] at h
    exact s_bi1 g _ h.1.1.1 h.1.1.2 h.1.2 (sndE g a x h.2)
  | .bi .abs a, w0, h => by
    obtain ⟨nm, p, x, pos, rfl⟩ := iE_biabs h
    simp only [chkE, Bool.and_eq_true, decide_eq_true_eq] at h
    exact s_bi1 g _ h.1.1.1 h.1.1.2 h.1.2 (sndE g a x h.2)
  | .bi .int a, w0, h => by
    obtain ⟨nm, p, x, pos, rfl⟩ := iE_biint h
    simp only [chkE, Bool.and_eq_true, decide_eq_true_eq] at h
    exact s_bi1 g _ h.1.1.1 h.1.1.2 h.1.2 (sndE g a x h.2)
  | .bi .repr a, w0, h => by
    obtain ⟨nm, p, x, pos, rfl⟩ := iE_birepr h
    simp only [chkE, Bool.and_eq_true, decide_eq_true_eq] at h
    exact s_bi1 g _ h.1.1.1 h.1.1.2 h.1.2 (sndE g a x h.2)
  | .bi .sorted a, w0, h => by
    obtain ⟨nm, p, x, pos, rfl⟩ := iE_bisorted h
    simp only [chkE, Bool.and_eq_true, decide_eq_true_eq] at h
    exact s_bi1 g _ h.1.1.1 h.1.1.2 h.1.2 (sndE g a x h.2)
  | .bi .lenSet a, w0, h => (iE_biNo rfl rfl h).elim
  | .bi .str a, w0, h => by
    obtain ⟨nm, p, x, pos, rfl⟩ := iE_bistr h
    simp only [chkE, Bool.and_eq_true, decide_eq_true_eq] at h
    exact s_bi1 g _ h.1.1.1 h.1.1.2 h.1.2 (sndE g a x h.2)
  | .kdnew, w0, h => by
    obtain ⟨pos, rfl⟩ := iE_kdnew h
    exact s_kdnew
  | .minI a b, w0, h => by
    obtain ⟨nm, p, x, y, pos, rfl⟩ := iE_minI h
    simp only [chkE, Bool.and_eq_true, decide_eq_true_eq] at h
    obtain ⟨⟨⟨⟨⟨h1, h2⟩, h3⟩, h4⟩, h5⟩, h6⟩ := h
    subst h1
    exact s_min g.calm (g.gl h2).1 (g.blt _ (by simp)) (sndE g a x h5) (sndE g b y h6) (star1 h3) (star1 h4) (starAny (by simp [h4]))
  | .maxI a b, w0, h => by
    obtain ⟨nm, p, x, y, pos, rfl⟩ := iE_maxI h
    simp only [chkE, Bool.and_eq_true, decide_eq_true_eq] at h
    obtain ⟨⟨⟨⟨⟨h1, h2⟩, h3⟩, h4⟩, h5⟩, h6⟩ := h
    subst h1
    exact s_max g.calm (g.gl h2).1 (g.blt _ (by simp)) (sndE g a x h5) (sndE g b y h6) (star1 h3) (star1 h4) (starAny (by simp [h4]))
  | .dlit kvs, w0, h => by
    obtain ⟨keys, vals, pos, rfl⟩ := iE_dlit h
    exact s_dlit (by simpa only [chkE] using h)
  | .revT a, w0, h => by
    obtain ⟨x, j, p1, p2, p3, pos, rfl⟩ := iE_revT h
    exact s_revT (sndE g a x (by simpa only [chkE] using h))
  | .isiT a, w0, h => by
    obtain ⟨nm, p, x, t1, p1, t2, p2, kk, tp, pos, rfl⟩ := iE_isiT h
    simp only [chkE, Bool.and_eq_true, decide_eq_true_eq] at h
    obtain ⟨⟨⟨⟨⟨⟨⟨h1, h2⟩, h3⟩, h4⟩, h5⟩, h6⟩, h7⟩, h8⟩ := h
    subst h1 h2 h3
    exact s_isiT (pe_bltn (g.gl h5).1 (g.blt _ (by simp)) (by decide +kernel) rfl) (pe_bltn (g.gl h6).1 (g.blt _ (by simp)) (by decide +kernel) rfl) (g.gl h4).1 (g.blt _ (by simp)) (sndE g a x h8) (star1 h7)
  | .isxT a ts no, w0, h => by
    obtain ⟨nm, p, x, es, kk, tp, pos, rfl⟩ := iE_isxT h
    simp only [chkE, Bool.and_eq_true, decide_eq_true_eq] at h
    obtain ⟨⟨⟨⟨⟨h1, h2⟩, h3⟩, h4⟩, h5⟩, h6⟩ := h
    subst h1
    exact s_isxT1 g.sc (g.blt _ (by simp)) g.is h2 h3 h4 h5 (sndE g a x h6)
  | .never, w0, h => ⟨fun pins s σ H Q I ⟨G, ρ, S, Hin, A, q⟩ => q.elim⟩
  | .bi .min a, w0, h => (iE_biNo rfl rfl h).elim
  | .bi .max a, w0, h => (iE_biNo rfl rfl h).elim
theorem sndEs {X : Cx} {c : Ck} {W : WX} {Φ : Tb} {k : Nat} (g : Good X c W Φ k) : ∀ (es : Es) (xs : List Expr), chkEs c es xs = true → PA X xs (tA X.K W (dens Φ es)) ∧ xs.all noStar = true ∧ Paired (fun e m => PE X e (tE X.K W m)) xs (es.ms Φ)
  | .nil, [], _ => ⟨s_anil, rfl, .nil⟩
  | .cons e r, x :: xs, h => by
    simp only [chkEs, Bool.and_eq_true] at h
    obtain ⟨h1, h2, h3⟩ := sndEs g r xs h.2
    have he := sndE g e x h.1.2
    exact ⟨s_acons he h1 (star1 h.1.1), by rw [List.all_cons, h.1.1, h2] <;> rfl, .cons he h3⟩
  | .nil, _ :: _, h => by simp [chkEs] at h
  | .cons _ _, [], h => by simp [chkEs] at h
theorem sndO {X : Cx} {c : Ck} {W : WX} {Φ : Tb} {k : Nat} (g : Good X c W Φ k) : ∀ (o : OE) (x : Option Expr), chkO c o x = true → PO X x (tOI X.K W (denO Φ o))
  | .none, none, _ => s_onone
  | .some e, some x, h => s_osome (sndE g e x (by simpa only [chkO] using h))
  | .none, some _, h => by simp [chkO] at h
  | .some _, none, h => by simp [chkO] at h
theorem sndB {X : Cx} {c : Ck} {W : WX} {Φ : Tb} {k : Nat} (g : Good X c W Φ k) : ∀ (b : B) (x : Expr), chkB c b x = true → PT X x (tT X.K W (denB Φ b)) ∧ ∀ o es p, x = .BoolOp o es p → PW X x (tT X.K W (denB Φ b))
  | .yes, w0, h => (iB_yes h).elim
  | .val (.cmp o a b), w0, h => by
    obtain ⟨h0, _⟩ := iB_val h
    obtain ⟨l, op, r, pos, rfl⟩ := iE_cmp h0
    simp only [chkE, Bool.and_eq_true] at h0
    obtain ⟨⟨⟨h1, h2⟩, h3⟩, h4⟩ := h0
    have e := copB_eq h1
    subst e
    exact ⟨s_tcmp g.hu o (noMark _ h2) (sndE g a l h3) (sndE g b r h4), fun _ _ _ q => by cases q⟩
  | .val (.chain o o' a b d), w0, h => by
    obtain ⟨h0, _⟩ := iB_val h
    obtain ⟨l, op, op', r, r', pos, rfl⟩ := iE_chain h0
    simp only [chkE, Bool.and_eq_true] at h0
    obtain ⟨⟨⟨⟨⟨h1, h1'⟩, h2⟩, h3⟩, h4⟩, h5⟩ := h0
    have e := copB_eq h1
    have e' := copB_eq h1'
    subst e e'
    exact ⟨s_tchain g.hu o o' (noMark _ h2) (sndE g a l h3) (sndE g b r h4) (sndE g d r' h5), fun _ _ _ q => by cases q⟩
  | .val (.var i), w0, h => sndV (sndE g (.var i) w0) h rfl
  | .val (.ci i), w0, h => sndV (sndE g (.ci i) w0) h rfl
  | .val (.cs x), w0, h => sndV (sndE g (.cs x) w0) h rfl
  | .val (.cb x), w0, h => sndV (sndE g (.cb x) w0) h rfl
  | .val (.cn), w0, h => sndV (sndE g (.cn) w0) h rfl
  | .val (.glob j), w0, h => sndV (sndE g (.glob j) w0) h rfl
  | .val (.bin o a b), w0, h => sndV (sndE g (.bin o a b) w0) h rfl
  | .val (.neg a), w0, h => sndV (sndE g (.neg a) w0) h rfl
  | .val (.not a), w0, h => sndV (sndE g (.not a) w0) h rfl
  | .val (.and a b), w0, h => sndV (sndE g (.and a b) w0) h rfl
  | .val (.or a b), w0, h => sndV (sndE g (.or a b) w0) h rfl
  | .val (.ite t a b), w0, h => sndV (sndE g (.ite t a b) w0) h rfl
  | .val (.tup es), w0, h => sndV (sndE g (.tup es) w0) h rfl
  | .val (.lst es), w0, h => sndV (sndE g (.lst es) w0) h rfl
  | .val (.lnew es), w0, h => sndV (sndE g (.lnew es) w0) h rfl
  | .val (.sub a i), w0, h => sndV (sndE g (.sub a i) w0) h rfl
  | .val (.dget a i), w0, h => sndV (sndE g (.dget a i) w0) h rfl
  | .val (.lget a i), w0, h => sndV (sndE g (.lget a i) w0) h rfl
  | .val (.sl a lo hi), w0, h => sndV (sndE g (.sl a lo hi) w0) h rfl
  | .val (.isi t a), w0, h => sndV (sndE g (.isi t a) w0) h rfl
  | .val (.isx a t yes no), w0, h => sndV (sndE g (.isx a t yes no) w0) h rfl
  | .val (.fld a f ok), w0, h => sndV (sndE g (.fld a f ok) w0) h rfl
  | .val (.lrng a), w0, h => sndV (sndE g (.lrng a) w0) h rfl
  | .val (.trng a), w0, h => sndV (sndE g (.trng a) w0) h rfl
  | .val (.dlit kvs), w0, h => sndV (sndE g (.dlit kvs) w0) h rfl
  | .val (.revT a), w0, h => sndV (sndE g (.revT a) w0) h rfl
  | .val (.isiT a), w0, h => sndV (sndE g (.isiT a) w0) h rfl
  | .val (.isxT a ts no), w0, h => sndV (sndE g (.isxT a ts no) w0) h rfl
  | .val .kdnew, w0, h => sndV (sndE g .kdnew w0) h rfl
  | .val (.minI a b), w0, h => sndV (sndE g (.minI a b) w0) h rfl
  | .val (.maxI a b), w0, h => sndV (sndE g (.maxI a b) w0) h rfl
  | .val .never, w0, h => sndV (sndE g .never w0) h rfl
  | .val (.call f es), w0, h => sndV (sndE g (.call f es) w0) h rfl
  | .val (.lc own t it b e), w0, h => sndV (sndE g (.lc own t it b e) w0) h rfl
  | .val (.lc2 own vs1 t it b t2 it2 b2 e), w0, h => sndV (sndE g (.lc2 own vs1 t it b t2 it2 b2 e) w0) h rfl
  | .val (.dnew ks es), w0, h => sndV (sndE g (.dnew ks es) w0) h rfl
  | .val (.bi b a), w0, h => sndV (sndE g (.bi b a) w0) h rfl
  | .not b, w0, h => by
    obtain ⟨x, pos, rfl⟩ := iB_not h
    simp only [chkB] at h
    exact ⟨s_tnot (sndB g b x h).1, fun _ _ _ q => by cases q⟩
  | .and a b, w0, h => by
    obtain ⟨e1, e2, rest, pos, rfl⟩ := iB_and h
    cases rest with
    | nil =>
      simp only [chkB, Bool.and_eq_true] at h
      have r := s_tand (pos := pos) (sndB g a e1 h.1).1 (pw_and1 (sndB g b e2 h.2).1)
      exact ⟨r.pt, fun _ _ _ _ => r⟩
    | cons e3 rest =>
      simp only [chkB, Bool.and_eq_true] at h
      have r := s_tand (sndB g a e1 h.1).1 ((sndB g b _ h.2).2 _ _ _ rfl)
      exact ⟨r.pt, fun _ _ _ _ => r⟩
  | .or a b, w0, h => by
    obtain ⟨e1, e2, rest, pos, rfl⟩ := iB_or h
    cases rest with
    | nil =>
      simp only [chkB, Bool.and_eq_true] at h
      have r := s_tor (pos := pos) (sndB g a e1 h.1).1 (pw_or1 (sndB g b e2 h.2).1)
      exact ⟨r.pt, fun _ _ _ _ => r⟩
    | cons e3 rest =>
      simp only [chkB, Bool.and_eq_true] at h
      have r := s_tor (sndB g a e1 h.1).1 ((sndB g b _ h.2).2 _ _ _ rfl)
      exact ⟨r.pt, fun _ _ _ _ => r⟩
theorem sndI {X : Cx} {c : Ck} {W : WX} {Φ : Tb} {k : Nat} (g : Good X c W Φ k) : ∀ (i : I) (tg x : Expr), chkI c i tg x = true → PI X tg x (tI X.K W (denI Φ i))
  | .seq e, tg, w0, h => i_seq (sndE g e w0 (by simpa only [chkI] using h))
  | .keys e, tg, w0, h => i_keys (sndE g e w0 (by simpa only [chkI] using h))
  | .rng1 a, tg, w0, h => by
    obtain ⟨nm, p, x, pos, rfl⟩ := iI_rng1 h
    simp only [chkI, Bool.and_eq_true, decide_eq_true_eq] at h
    obtain ⟨⟨⟨rfl, h2⟩, h3⟩, h4⟩ := h
    exact i_rng1 (g.gl h2).1 (g.blt _ (by simp)) (sndE g a x h4) (star1 h3)
  | .rng2 a b, tg, w0, h => by
    obtain ⟨nm, p, x, y, pos, rfl⟩ := iI_rng2 h
    simp only [chkI, Bool.and_eq_true, decide_eq_true_eq] at h
    obtain ⟨⟨⟨⟨⟨rfl, h2⟩, h3⟩, h4⟩, h5⟩, h6⟩ := h
    exact i_rng2 (g.gl h2).1 (g.blt _ (by simp)) (sndE g a x h5) (sndE g b y h6) (by rw [star1 h3, star1 h4] <;> rfl) (star1 h4)
  | .rng3 a b d, tg, w0, h => by
    obtain ⟨nm, p, x, y, z, pos, rfl⟩ := iI_rng3 h
    simp only [chkI, Bool.and_eq_true, decide_eq_true_eq] at h
    obtain ⟨⟨⟨⟨⟨⟨⟨rfl, h2⟩, h3⟩, h4⟩, h5⟩, h6⟩, h7⟩, h8⟩ := h
    exact i_rng3 (fun ta q => pi_range3 (g.gl h2).1 (g.blt _ (by simp)) q (star1 h3) (starAny (by simp [h4, h5]))) (sndE g a x h6) (sndE g b y h7) (sndE g d z h8) (star1 h3) (star1 h4) (star1 h5)
  | .enum a, tg, w0, h => by
    obtain ⟨ts, kk, tp, nm, p, x, pos, rfl, rfl⟩ := iI_enum h
    simp only [chkI, Bool.and_eq_true, decide_eq_true_eq] at h
    obtain ⟨⟨⟨rfl, h2⟩, h3⟩, h4⟩ := h
    exact i_enum (g.gl h2).1 (g.blt _ (by simp)) (sndE g a x h4) (star1 h3)
  | .zip a b, tg, w0, h => by
    obtain ⟨ts, kk, tp, nm, p, x, y, pos, rfl, rfl⟩ := iI_zip h
    simp only [chkI, Bool.and_eq_true, decide_eq_true_eq] at h
    obtain ⟨⟨⟨⟨⟨rfl, h2⟩, h3⟩, h4⟩, h5⟩, h6⟩ := h
    exact i_zip (fun ta q => RZ.pi_zipA (g.gl h2).1 (g.blt _ (by simp)) q (star1 h3) (starAny (by simp [h4]))) (sndE g a x h5) (sndE g b y h6) (star1 h3) (star1 h4)
end
end WB
namespace WB
open PySem L2

/-- whether the list's store comes before the comprehension is left -/
def swB (sc : Scope) (y : Str) (py pos : Pos) (scope : Scope) : Bool := (sc.names.lookup y == some .local) && (py.line == pos.line) && !(scope.names.any fun (n, k) => n == y && (k == .local || k == .cell))
theorem sw_eq {elt : Expr} {gs : List Comprehension} {scope : Scope} {pos py : Pos} {y : Str} {l : Nat} {env : PySem.Env} (hk : env.scope.kind = .function) : swapsWith (.ListComp elt gs scope pos) (some (.Name y py)) l env = pure (swB env.scope y py pos scope) := by
  have hb : env.blockKind = .function := by unfold Env.blockKind; rw [hk]; rfl
  unfold swapsWith swB
  simp only [hb]
  rfl
theorem sw_no {v : Expr} {t : Option Expr} {l : Nat} {env : PySem.Env} (h : noComp v = true) : swapsWith v t l env = pure false := by
  cases v <;> first | rfl | cases h
/-- two names from two values: the later is stored first -/
def parSw (sc : Scope) (x y : Str) (px py : Pos) (a b : Expr) : Bool := (sc.names.lookup x == some .local) && (sc.names.lookup y == some .local) && (py.line == px.line) && !(foldedForSure 8 a && foldedForSure 8 b) && !(constantsAlone 8 a && constantsAlone 8 b)
/-- two names from two values that are stored from the left -/
def parNo (sc : Scope) (x y : Str) (px py : Pos) (a b : Expr) : Bool := !((sc.names.lookup x == some .local) && (sc.names.lookup y == some .local) && (py.line == px.line)) || (foldedForSure 8 a && foldedForSure 8 b)
theorem noSt {f : Expr → Bool} (hf : ∀ e, noStar e = true → f e = false) {a b : Expr} (ha : noStar a = true) (hb : noStar b = true) : [a, b].any f = false := by
  simp [hf a ha, hf b hb]
theorem sw_par {x y : Str} {px py pt pt2 : Pos} {a b : Expr} {kt k2 : Nat} {env : PySem.Env} (hk : env.scope.kind = .function) (ha : noStar a = true) (hb : noStar b = true) (hxy : x ≠ y) (h : parSw env.scope x y px py a b = true) :
    swappedStores [.Tuple [.Name x px, .Name y py] kt pt] (.Tuple [a, b] k2 pt2) env = pure (some [x, y]) := by
  have e0 : env.blockKind = .function := by unfold Env.blockKind; rw [hk]; rfl
  unfold parSw at h
  simp only [Bool.and_eq_true, Bool.not_eq_true', beq_iff_eq] at h
  obtain ⟨⟨⟨⟨h1, h2⟩, h3⟩, h4⟩, h5⟩ := h
  have k1 : env.kindOf x = some .local := h1
  have k2' : env.kindOf y = some .local := h2
  have n2 : [x, y].eraseDups.length = 2 := by
    rw [List.eraseDups_cons]
    simp [List.filter, hxy, beq_eq_false_iff_ne.mpr (Ne.symm hxy), List.eraseDups_cons]
  unfold swappedStores
  dsimp only
  rw [noSt (fun e he => by cases e <;> first | rfl | cases he) ha hb]
  simp only [e0, List.filterMap_cons, List.filterMap_nil, k1, k2', List.head?_cons, Option.map_some, Option.getD_some, Expr.pos, h3, List.all_cons, List.all_nil, h4, h5, Bool.and_true, beq_self_eq_true, if_true, n2]
  rfl
theorem sw_parNo {x y : Str} {px py pt pt2 : Pos} {a b : Expr} {kt k2 : Nat} {env : PySem.Env} (hk : env.scope.kind = .function) (ha : noStar a = true) (hb : noStar b = true) (hxy : x ≠ y) (h : parNo env.scope x y px py a b = true) :
    swappedStores [.Tuple [.Name x px, .Name y py] kt pt] (.Tuple [a, b] k2 pt2) env = pure none := by
  have e0 : env.blockKind = .function := by unfold Env.blockKind; rw [hk]; rfl
  unfold parNo at h
  unfold swappedStores
  dsimp only
  rw [noSt (fun e he => by cases e <;> first | rfl | cases he) ha hb]
  have k1 : env.kindOf x = env.scope.names.lookup x := rfl
  have k2' : env.kindOf y = env.scope.names.lookup y := rfl
  have n2 : [x, y].eraseDups.length = 2 := by
    rw [List.eraseDups_cons]
    simp [List.filter, hxy, beq_eq_false_iff_ne.mpr (Ne.symm hxy), List.eraseDups_cons]
  cases q1 : (env.scope.names.lookup x == some .local) <;> cases q2 : (env.scope.names.lookup y == some .local) <;> cases q3 : (py.line == px.line) <;> rw [q1, q2, q3] at h <;>
    simp only [Bool.not_true, Bool.false_or, Bool.and_self, Bool.and_true, Bool.true_and] at h <;>
    simp only [e0, List.filterMap_cons, List.filterMap_nil, k1, k2', q1, q2, q3, List.head?_cons, Option.map_some, Option.getD_some, Expr.pos, List.all_cons, List.all_nil, h, Bool.and_true, Bool.and_false, Bool.false_and, beq_self_eq_true, if_true, n2] <;> rfl
/-- three names from three values -/
def parSw3 (sc : Scope) (x y z : Str) (px py pz : Pos) (a b d : Expr) : Bool := (sc.names.lookup x == some .local) && (sc.names.lookup y == some .local) && (sc.names.lookup z == some .local) && (py.line == px.line) && (pz.line == px.line) &&
  !(foldedForSure 8 a && (foldedForSure 8 b && foldedForSure 8 d)) && !(constantsAlone 8 a && (constantsAlone 8 b && constantsAlone 8 d))
theorem sw_par3 {x y z : Str} {px py pz pt pt2 : Pos} {a b d : Expr} {kt k2 : Nat} {env : PySem.Env} (hk : env.scope.kind = .function) (ha : noStar a = true) (hb : noStar b = true) (hd : noStar d = true) (hxy : x ≠ y) (hxz : x ≠ z) (hyz : y ≠ z) (h : parSw3 env.scope x y z px py pz a b d = true) :
    swappedStores [.Tuple [.Name x px, .Name y py, .Name z pz] kt pt] (.Tuple [a, b, d] k2 pt2) env = pure (some [x, y, z]) := by
  have e0 : env.blockKind = .function := by unfold Env.blockKind; rw [hk]; rfl
  unfold parSw3 at h
  simp only [Bool.and_eq_true, Bool.not_eq_true', beq_iff_eq] at h
  obtain ⟨⟨⟨⟨⟨⟨h1, h2⟩, h3⟩, h4⟩, h5⟩, h6⟩, h7⟩ := h
  have k1 : env.kindOf x = some .local := h1
  have k2' : env.kindOf y = some .local := h2
  have k3 : env.kindOf z = some .local := h3
  have n2 : [x, y, z].eraseDups.length = 3 := by
    simp [List.eraseDups_cons, List.filter, beq_eq_false_iff_ne.mpr (Ne.symm hxy), beq_eq_false_iff_ne.mpr (Ne.symm hxz), beq_eq_false_iff_ne.mpr (Ne.symm hyz)]
  have ns : ∀ (f : Expr → Bool), (∀ e, noStar e = true → f e = false) → [a, b, d].any f = false := fun f hf => by simp [hf a ha, hf b hb, hf d hd]
  unfold swappedStores
  dsimp only
  rw [ns _ (fun e he => by cases e <;> first | rfl | cases he)]
  simp only [e0, List.filterMap_cons, List.filterMap_nil, k1, k2', k3, List.head?_cons, Option.map_some, Option.getD_some, Expr.pos, h4, h5, List.all_cons, List.all_nil, h6, h7, Bool.and_true, beq_self_eq_true, if_true, n2]
  rfl
def augOk : BOp → Bool
  | .add => true
  | .sub => true
  | .mul => true
  | _ => false
mutual
def chkQ (c : Ck) : E → Expr → Bool
  | .var i, .Name x _ => visB c i x
  | .ci i, .Constant (.int j) _ _ => decide (i = j)
  | .cs x, .Constant (.str y) _ _ => decide (x = y)
  | .cb b, .Constant (.bool d) _ _ => b == d
  | .cn, .Constant .none _ _ => true
  | .not a, .UnaryOp .Not x _ => chkQ c a x
  | .and a b, .BoolOp .And [e1, e2] _ => chkQ c a e1 && chkQ c b e2
  | .tup es, .Tuple xs _ _ => chkQs c es xs
  | .isx a t yes no, .Call (.Name nm _) [x, .Name ty _] [] _ => decide (nm = ("isinstance" : Str)) && decide (t = ty) && glB c nm && glB c ty && noStar x && isxB c t yes no && chkQ c a x
  | .fld a f ok, .Attribute x g _ => decide (f = g) && isName x && fldB c f ok && chkQ c a x
  | _, _ => false
def chkQs (c : Ck) : Es → List Expr → Bool
  | .nil, [] => true
  | .cons e r, x :: xs => noStar x && chkQ c e x && chkQs c r xs
  | _, _ => false
end
def chkSu (c : Ck) : S → Stmt → Bool
  | .ret e, .Return (some v) _ => chkQ c e v
  | .asg i e, .Assign [.Name x _] v _ => noComp v && locB c i x && chkQ c e v
  | _, _ => false
def nameB (c : Ck) : Option Str → Option Nat → Bool
  | none, none => true
  | some n, some i => decide (c.N[i]? = some n) && (c.sc.names.lookup n == some .local)
  | _, _ => false
def sbB (c : Ck) (t : Str) (yes no : List Str) : Bool := yes.all (fun y => decide ((y, t, true) ∈ c.ct.sb)) && no.all (fun y => decide ((y, t, false) ∈ c.ct.sb)) && (!yes.isEmpty || !no.isEmpty)
def chkHs (c : Ck) : Hs → List ExceptHandler → Bool
  | .nil, [] => true
  | .cons t oi su yes no r, .ExceptHandler (some (.Name y _)) on [st] _ :: hs => decide (t = y) && glB c y && nameB c on oi && sbB c t yes no && chkSu c su st && chkHs c r hs
  | _, _ => false
section
variable {X : Cx} {c : Ck} {Φ : Tb} {W : WX}
theorem iQ_var {i : Nat} {w0 : Expr} (h : chkQ c (.var i) w0 = true) : ∃ x pos, w0 = .Name x pos := by
  unfold chkQ at h
  split at h <;> first | contradiction | exact ⟨_, _, rfl⟩ | (cases h; done)
theorem iQ_ci {i : Int} {w0 : Expr} (h : chkQ c (.ci i) w0 = true) : ∃ j a b, w0 = .Constant (.int j) a b := by
  unfold chkQ at h
  split at h <;> first | contradiction | exact ⟨_, _, _, rfl⟩ | (cases h; done)
theorem iQ_cs {i : Str} {w0 : Expr} (h : chkQ c (.cs i) w0 = true) : ∃ j a b, w0 = .Constant (.str j) a b := by
  unfold chkQ at h
  split at h <;> first | contradiction | exact ⟨_, _, _, rfl⟩ | (cases h; done)
theorem iQ_cb {i : Bool} {w0 : Expr} (h : chkQ c (.cb i) w0 = true) : ∃ j a b, w0 = .Constant (.bool j) a b := by
  unfold chkQ at h
  split at h <;> first | contradiction | exact ⟨_, _, _, rfl⟩ | (cases h; done)
theorem iQ_cn {w0 : Expr} (h : chkQ c .cn w0 = true) : ∃ a b, w0 = .Constant .none a b := by
  unfold chkQ at h
  split at h <;> first | contradiction | exact ⟨_, _, rfl⟩ | (cases h; done)
theorem iQ_not {e : E} {w0 : Expr} (h : chkQ c (.not e) w0 = true) : ∃ x p, w0 = .UnaryOp .Not x p := by
  unfold chkQ at h
  split at h <;> first | contradiction | exact ⟨_, _, rfl⟩ | (cases h; done)
theorem iQ_and {a b : E} {w0 : Expr} (h : chkQ c (.and a b) w0 = true) : ∃ x y p, w0 = .BoolOp .And [x, y] p := by
  unfold chkQ at h
  split at h <;> first | contradiction | exact ⟨_, _, _, rfl⟩ | (cases h; done)
theorem iQ_tup {es : Es} {w0 : Expr} (h : chkQ c (.tup es) w0 = true) : ∃ xs k p, w0 = .Tuple xs k p := by
  unfold chkQ at h
  split at h <;> first | contradiction | exact ⟨_, _, _, rfl⟩ | (cases h; done)
theorem iQ_isx {a : E} {t : Str} {yes no : List Str} {w0 : Expr} (h : chkQ c (.isx a t yes no) w0 = true) : ∃ nm p x ty p2 pos, w0 = .Call (.Name nm p) [x, .Name ty p2] [] pos := by
  unfold chkQ at h
  split at h <;> first | contradiction | exact ⟨_, _, _, _, _, _, rfl⟩ | (cases h; done)
theorem iQ_fld {a : E} {f : Str} {ok : List Str} {w0 : Expr} (h : chkQ c (.fld a f ok) w0 = true) : ∃ x g pos, w0 = .Attribute x g pos := by
  unfold chkQ at h
  split at h <;> first | contradiction | exact ⟨_, _, _, rfl⟩ | (cases h; done)
mutual
theorem sndQ (g : GoodQ X c) : ∀ (e : E) (x : Expr), chkQ c e x = true → PE X x (tE X.K W (den Φ e))
  | .var i, w0, h => by
    obtain ⟨x, pos, rfl⟩ := iQ_var h
    obtain ⟨h1, h2, h3, h4⟩ := g.vis (by simpa only [chkQ] using h)
    exact s_var (pe_var h1 h2 h3 h4)
  | .ci i, w0, h => by
    obtain ⟨j, a, b, rfl⟩ := iQ_ci h
    have e : i = j := by simpa [chkQ] using h
    subst e; exact s_ci
  | .cs x, w0, h => by
    obtain ⟨y, a, b, rfl⟩ := iQ_cs h
    have e : x = y := by simpa [chkQ] using h
    subst e; exact s_cs
  | .cb x, w0, h => by
    obtain ⟨y, a, b, rfl⟩ := iQ_cb h
    have e : x = y := by simpa [chkQ] using h
    subst e; exact s_cb
  | .cn, w0, h => by
    obtain ⟨a, b, rfl⟩ := iQ_cn h
    exact s_cn
  | .not a, w0, h => by
    obtain ⟨x, pos, rfl⟩ := iQ_not h
    exact s_not (sndQ g a x (by simpa only [chkQ] using h))
  | .and a b, w0, h => by
    obtain ⟨x, y, pos, rfl⟩ := iQ_and h
    simp only [chkQ, Bool.and_eq_true] at h
    exact s_and (sndQ g a x h.1) (pe_one (sndQ g b y h.2))
  | .tup es, w0, h => by
    obtain ⟨xs, kk, pos, rfl⟩ := iQ_tup h
    exact s_tup (sndQs g es xs (by simpa only [chkQ] using h))
  | .isx a t yes no, w0, h => by
    obtain ⟨nm, p, x, ty, p2, pos, rfl⟩ := iQ_isx h
    simp only [chkQ, Bool.and_eq_true, decide_eq_true_eq] at h
    obtain ⟨⟨⟨⟨⟨⟨h1, h2⟩, h3⟩, h4⟩, h5⟩, h6⟩, h7⟩ := h
    subst h1
    subst h2
    exact s_isx1 g.sc g.isi g.is h3 h4 h5 h6 (sndQ g a x h7)
  | .fld a f ok, w0, h => by
    obtain ⟨x, gg, pos, rfl⟩ := iQ_fld h
    simp only [chkQ, Bool.and_eq_true, decide_eq_true_eq] at h
    obtain ⟨⟨⟨h1, h2⟩, h3⟩, h4⟩ := h
    subst h1
    exact s_fld1 g.fl h2 h3 (sndQ g a x h4)
  | .glob _, _, h | .bin _ _ _, _, h | .neg _, _, h | .cmp _ _ _, _, h | .chain _ _ _ _ _, _, h | .or _ _, _, h | .ite _ _ _, _, h | .lst _, _, h | .sub _ _, _, h | .sl _ _ _, _, h | .bi _ _, _, h | .isi _ _, _, h | .call _ _, _, h | .lc _ _ _ _ _, _, h | .lc2 _ _ _ _ _ _ _ _ _, _, h | .dnew _ _, _, h | .lnew _, _, h | .dget _ _, _, h | .lget _ _, _, h | .lrng _, _, h | .trng _, _, h | .dlit _, _, h | .revT _, _, h | .isiT _, _, h | .isxT _ _ _, _, h | .never, _, h => by simp [chkQ] at h
theorem sndQs (g : GoodQ X c) : ∀ (es : Es) (xs : List Expr), chkQs c es xs = true → PA X xs (tA X.K W (dens Φ es))
  | .nil, [], _ => s_anil
  | .cons e r, x :: xs, h => by
    simp only [chkQs, Bool.and_eq_true] at h
    exact s_acons (sndQ g e x h.1.2) (sndQs g r xs h.2) (star1 h.1.1)
  | .nil, _ :: _, h => by simp [chkQs] at h
  | .cons _ _, [], h => by simp [chkQs] at h
end
theorem sndSu (g : GoodQ X c) : ∀ (s : S) (x : Stmt), chkSu c s x = true → PS X x (tS X.K W (exec Φ s)) := by
  intro s x h
  unfold chkSu at h
  split at h
  · exact s_ret (ps_ret (sndQ g _ _ h))
  · simp only [Bool.and_eq_true] at h
    obtain ⟨⟨h1, h2⟩, h3⟩ := h
    obtain ⟨q1, q2, q3⟩ := g.loc h2
    exact s_asg (ps_set (by rw [g.N]; exact g.nd) q1 q2 (sndQ g _ _ h3) (sw_no h1) q3) fun σ H Q h => h
  · cases h
theorem iH_cons {t : Str} {oi : Option Nat} {su : S} {yes no : List Str} {r : Hs} {hs : List ExceptHandler} (h : chkHs c (.cons t oi su yes no r) hs = true) : ∃ y p on st p2 hs', hs = .ExceptHandler (some (.Name y p)) on [st] p2 :: hs' := by
  unfold chkHs at h
  split at h <;> first | contradiction | exact ⟨_, _, _, _, _, _, rfl⟩ | cases h
theorem sndHs {k : Nat} (g : Good X c W Φ k) : ∀ (r : Hs) (hs : List ExceptHandler), chkHs c r hs = true → ∃ l, HsOk X Φ r hs l
  | .nil, [], _ => ⟨_, .nil⟩
  | .nil, _ :: _, h => by simp [chkHs] at h
  | .cons t oi su yes no r, hs, h => by
    obtain ⟨y, p, on, st, p2, hs', rfl⟩ := iH_cons h
    simp only [chkHs, Bool.and_eq_true, decide_eq_true_eq] at h
    obtain ⟨⟨⟨⟨⟨h1, h2⟩, h3⟩, h4⟩, h5⟩, h6⟩ := h
    subst h1
    obtain ⟨l, hl⟩ := sndHs g r hs' h6
    unfold sbB at h4
    simp only [Bool.and_eq_true, List.all_eq_true, decide_eq_true_eq] at h4
    obtain ⟨⟨q1, q2⟩, q3⟩ := h4
    obtain ⟨v, hv⟩ : ∃ v, ClsV X.mg t v := by
      cases yes with
      | cons x _ => obtain ⟨C, v, _, q, _⟩ := g.sb x t true (q1 x List.mem_cons_self); exact ⟨v, q⟩
      | nil =>
        cases no with
        | cons x _ => obtain ⟨C, v, _, q, _⟩ := g.sb x t false (q2 x List.mem_cons_self); exact ⟨v, q⟩
        | nil => simp at q3
    have hn : nameX X on oi := by
      unfold nameB at h3
      split at h3
      · trivial
      · simp only [Bool.and_eq_true, decide_eq_true_eq, beq_iff_eq] at h3
        exact ⟨by rw [g.N]; exact h3.1, by show X.env.scope.names.lookup _ = _; rw [g.sc]; exact h3.2⟩
      · cases h3
    exact ⟨_, .cons hv (g.gl h2).1 (g.gl h2).2 hn (fun x hx => g.sb x t true (q1 x hx)) (fun x hx => g.sb x t false (q2 x hx)) (fun a pn => sndSu (g.q a pn) su st h5) hl⟩
end
mutual
def chkS (c : Ck) : S → Stmt → Bool
  | .pass, .Pass _ => true
  | .brk, .Break _ => true
  | .cnt, .Continue _ => true
  | .asg i e, .Assign [.Name x _] v _ => noComp v && locB c i x && chkE c e v
  | .asgLc i own t it b e, .Assign [.Name y _] (.ListComp elt [⟨tg, iter, ifs, 0⟩] scope _) _ => locB c i y && (blkC c.N c.sc scope own && chkI c it tg iter && chkT (c.blk scope) t tg && chkIfW (fun x => chkB (c.blk scope) b x) b ifs && chkE (c.blk scope) e elt && subB t.slots (own.map (·.2)) && noSet iter)
  | .asgLc2 i own vs1 t it b t2 it2 b2 e, .Assign [.Name y _] (.ListComp elt [⟨tg, iter, ifs, 0⟩, ⟨tg2, iter2, ifs2, 0⟩] scope _) _ => locB c i y && (blkC c.N c.sc scope own && chkI c it tg iter && chkT (c.blk scope) t tg && chkIfW (fun x => chkB (c.blk scope) b x) b ifs && chkI (c.blk scope) it2 tg2 iter2 && chkT (c.blk scope) t2 tg2 && chkIfW (fun x => chkB (c.blk scope) b2 x) b2 ifs2 &&
      chkE (c.blk scope) e elt && subB t.slots (own.map (·.2)) && subB t2.slots vs1 && subB vs1 (own.map (·.2)) && noSet iter && noSet iter2)
  | .unp ts e, .Assign [.Tuple es _ _] v _ => !isTup v && noComp v && chkTs c ts es && chkE c e v
  | .par i j a b, .Assign [.Tuple [.Name x px, .Name y py] _ _] (.Tuple [u, v] _ _) _ => locB c i x && locB c j y && !(i == j) && noStar u && noStar v && (parSw c.sc x y px py u v || parNo c.sc x y px py u v) && chkE c a u && chkE c b v
  | .aug i o e, .AugAssign (.Name x _) op v _ => locB c i x && bopB o op && augOk o && chkE c e v
  | .setK o k e, .Assign [.Subscript x y _] v _ => noSlice y && noComp v && chkE c o x && chkE c k y && chkE c e v
  | .app i e, .Expr (.Call (.Attribute (.Name x _) nm apos) [v] [] cpos) _ => decide (nm = ("append" : Str)) && (apos.endLine == cpos.line) && visB c i x && noStar v && chkE c e v
  | .rev i, .Expr (.Call (.Attribute (.Name x _) nm apos) [] [] cpos) _ => decide (nm = ("reverse" : Str)) && (apos.endLine == cpos.line) && visB c i x
  | .expr e, .Expr v _ => noComp v && chkE c e v
  | .ret e, .Return (some v) _ => chkE c e v
  | .retO i, .Return (some (.Name x _)) _ => visB c i x
  | .retN, .Return none _ => true
  | .iff b p q, .If t us vs _ => chkB c b t && chkSs c p us && chkSs c q vs
  | .for t it b, .For tg iter body [] _ => chkI c it tg iter && chkT c t tg && noSet iter && chkSs c b body
  | .whl _ b p, .While t body [] _ => chkB c b t && chkSs c p body
  | .never, _ => true
  | .raise0 x, .Raise (some (.Call (.Name y _) [] [] _)) none _ => decide (x = y) && glB c y && decide (x ∈ c.ct.r0)
  | .raise1 x f e, .Raise (some (.Call (.Name y _) [v] [] _)) none _ => decide (x = y) && glB c y && decide ((x, f) ∈ c.ct.r1) && noStar v && chkE c e v
  | .tryS b hs, .Try body (h0 :: hds) [] [] _ => c.top && chkHs c hs (h0 :: hds) && chkSs c b body
  | .par3 i j l a b d, .Assign [.Tuple [.Name x px, .Name y py, .Name z pz] _ _] (.Tuple [u, v, w] _ _) _ => locB c i x && locB c j y && locB c l z && !(i == j) && !(i == l) && !(j == l) && noStar u && noStar v && noStar w && parSw3 c.sc x y z px py pz u v w && chkE c a u && chkE c b v && chkE c d w
  | .appPop i j e, .Expr (.Call (.Attribute (.Name x _) nm apos) [.Call (.Attribute (.Name y _) nm2 apos2) [v] [] cpos2] [] cpos) _ => decide (nm = ("append" : Str)) && decide (nm2 = ("pop" : Str)) && (apos.endLine == cpos.line) && (apos2.endLine == cpos2.line) && visB c i x && visB c j y && !(i == j) && noStar v && chkE c e v
  | .updK i e, .Expr (.Call (.Attribute (.Name x _) nm apos) [v] [] cpos) _ => decide (nm = ("update" : Str)) && (apos.endLine == cpos.line) && visB c i x && noStar v && chkE c e v
  | .ext i e, .Expr (.Call (.Attribute (.Name x _) nm apos) [v] [] cpos) _ => decide (nm = ("extend" : Str)) && (apos.endLine == cpos.line) && visB c i x && noStar v && chkE c e v
  | _, _ => false
def chkSs (c : Ck) : Ss → List Stmt → Bool
  | .nil, [] => true
  | .cons (.frz _) r, sts => chkSs c r sts
  | .cons (.frzK _) r, sts => chkSs c r sts
  | .cons s r, st :: sts => chkS c s st && chkSs c r sts
  | _, _ => false
end
section
variable {X : Cx} {c : Ck} {W : WX} {Φ : Tb} {k : Nat}
theorem Good.nd' (g : Good X c W Φ k) : X.N.Nodup := by rw [g.N]; exact g.nd
theorem Good.kd (g : Good X c W Φ k) : X.env.scope.kind = .function := by rw [g.sc]; exact g.kind
theorem z_asg (g : Good X c W Φ k) {i : Nat} {e : E} {x : Str} {v : Expr} {p pos : Pos} (h1 : noComp v = true) (h2 : locB c i x = true) (h3 : PE X v (tE X.K W (den Φ e))) : PS X (.Assign [.Name x p] v pos) (tS X.K W (exec Φ (.asg i e))) := by
  obtain ⟨q1, q2, q3⟩ := g.loc h2
  exact s_asg (ps_set g.nd' q1 q2 h3 (sw_no h1) q3) fun σ H Q h => h
theorem z_lc (g : Good X c W Φ k) {i : Nat} {own : List (Str × Nat)} {t : T} {it : I} {b : B} {e : E} {y : Str} {elt tg iter : Expr} {ifs : List Expr} {scope : Scope} {py lp pos : Pos} (h0 : locB c i y = true)
    (h : (blkC c.N c.sc scope own && chkI c it tg iter && chkT (c.blk scope) t tg && chkIfW (fun x => chkB (c.blk scope) b x) b ifs && chkE (c.blk scope) e elt && subB t.slots (own.map (·.2)) && noSet iter) = true) : PS X (.Assign [.Name y py] (.ListComp elt [⟨tg, iter, ifs, 0⟩] scope lp) pos) (tS X.K W (exec Φ (.asgLc i own t it b e))) := by
  obtain ⟨q1, q2, q3⟩ := g.loc h0
  have hh := h
  simp only [Bool.and_eq_true] at h
  obtain ⟨⟨⟨⟨⟨⟨h1, h2⟩, h3⟩, h4⟩, h5⟩, h6⟩, h7⟩ := h
  cases sw : swB c.sc y py lp scope with
  | false => exact s_asg (ps_set g.nd' q1 q2 (sndE g (.lc own t it b e) _ (by simpa only [chkE] using hh)) (by rw [sw_eq g.kd, g.sc, sw]) q3) fun σ H Q h => h
  | true =>
    have gb := g.blk scope (blkC_kind h1)
    have hl : X.env.scope.names.lookup y = some .local := by
      rw [g.sc]
      unfold swB at sw
      simp only [Bool.and_eq_true, beq_iff_eq] at sw
      exact sw.1.1
    exact s_asg (ps_setLc g.calm g.nd' q1 hl (by rw [sw_eq g.kd, g.sc, sw]) (sndI g it tg iter h2) (by rw [g.N, g.sc]; exact blkOk_by h1) (fun s H C cl fp => sndT (gb s H C cl fp) t tg h3) (fun s H C cl fp => sndIf (fun x => sndB (gb s H C cl fp) b x) h4)
      (fun s H C cl fp => s_hand (sndE (gb s H C cl fp) e elt h5)) (noFold h7 _)) fun σ H Q h => lc_read (subB_mem h6) h
theorem z_lc2 (g : Good X c W Φ k) {i : Nat} {own : List (Str × Nat)} {vs1 : List Nat} {t t2 : T} {it it2 : I} {b b2 : B} {e : E} {y : Str} {elt tg iter tg2 iter2 : Expr} {ifs ifs2 : List Expr} {scope : Scope} {py lp pos : Pos} (h0 : locB c i y = true)
    (h : (blkC c.N c.sc scope own && chkI c it tg iter && chkT (c.blk scope) t tg && chkIfW (fun x => chkB (c.blk scope) b x) b ifs && chkI (c.blk scope) it2 tg2 iter2 && chkT (c.blk scope) t2 tg2 && chkIfW (fun x => chkB (c.blk scope) b2 x) b2 ifs2 &&
      chkE (c.blk scope) e elt && subB t.slots (own.map (·.2)) && subB t2.slots vs1 && subB vs1 (own.map (·.2)) && noSet iter && noSet iter2) = true) : PS X (.Assign [.Name y py] (.ListComp elt [⟨tg, iter, ifs, 0⟩, ⟨tg2, iter2, ifs2, 0⟩] scope lp) pos) (tS X.K W (exec Φ (.asgLc2 i own vs1 t it b t2 it2 b2 e))) := by
  obtain ⟨q1, q2, q3⟩ := g.loc h0
  have hh := h
  simp only [Bool.and_eq_true] at h
  obtain ⟨⟨⟨⟨⟨⟨⟨⟨⟨⟨⟨⟨h1, h2⟩, h3⟩, h4⟩, h5⟩, h6⟩, h7⟩, h8⟩, h9⟩, h10⟩, h11⟩, h12⟩, h13⟩ := h
  cases sw : swB c.sc y py lp scope with
  | false => exact s_asg (ps_set g.nd' q1 q2 (sndE g (.lc2 own vs1 t it b t2 it2 b2 e) _ (by simpa only [chkE] using hh)) (by rw [sw_eq g.kd, g.sc, sw]) q3) fun σ H Q h => h
  | true =>
    have gb := g.blk scope (blkC_kind h1)
    have hl : X.env.scope.names.lookup y = some .local := by
      rw [g.sc]
      unfold swB at sw
      simp only [Bool.and_eq_true, beq_iff_eq] at sw
      exact sw.1.1
    exact s_asg (ps_setLc2 g.calm g.nd' q1 hl (by rw [sw_eq g.kd, g.sc, sw]) (sndI g it tg iter h2) (by rw [g.N, g.sc]; exact blkOk_by h1) (subB_mem h11) (fun s H C cl fp => sndT (gb s H C cl fp) t tg h3) (fun s H C cl fp => sndIf (fun x => sndB (gb s H C cl fp) b x) h4)
      (fun s H C cl fp => sndI (gb s H C cl fp) it2 tg2 iter2 h5) (fun s H C cl fp => sndT (gb s H C cl fp) t2 tg2 h6) (fun s H C cl fp => sndIf (fun x => sndB (gb s H C cl fp) b2 x) h7) (fun s H C cl fp => s_hand (sndE (gb s H C cl fp) e elt h8)) (noFold h12 _) (noFold h13)) fun σ H Q h => lc2_read (subB_mem h9) (subB_mem h10) h
theorem z_unp (g : Good X c W Φ k) {ts : Ts} {e : E} {es : List Expr} {v : Expr} {kk : Nat} {p pos : Pos} (h0 : isTup v = false) (h1 : noComp v = true) (h2 : chkTs c ts es = true) (h3 : PE X v (tE X.K W (den Φ e))) : PS X (.Assign [.Tuple es kk p] v pos) (tS X.K W (exec Φ (.unp ts e))) := by
  refine s_unp (ps_asg h3 (sndT g (.tup ts) (.Tuple es kk p) (by simpa only [chkT] using h2)) (by unfold swapsWithSole; exact sw_no h1) ?_ rfl)
  cases v <;> first | rfl | cases h0
theorem z_par (g : Good X c W Φ k) {i j : Nat} {a b : E} {x y : Str} {u v : Expr} {kt k2 : Nat} {px py pt pt2 pos : Pos} (h1 : locB c i x = true) (h2 : locB c j y = true) (h3 : i ≠ j) (h4 : noStar u = true) (h5 : noStar v = true) (h6 : (parSw c.sc x y px py u v || parNo c.sc x y px py u v) = true)
    (ha : PE X u (tE X.K W (den Φ a))) (hb : PE X v (tE X.K W (den Φ b))) : PS X (.Assign [.Tuple [.Name x px, .Name y py] kt pt] (.Tuple [u, v] k2 pt2) pos) (tS X.K W (exec Φ (.par i j a b))) := by
  obtain ⟨q1, q2, q3⟩ := g.loc h1
  obtain ⟨r1, r2, r3⟩ := g.loc h2
  have hxy : x ≠ y := fun z => by
    subst z
    obtain ⟨l1, e1⟩ := List.getElem?_eq_some_iff.mp q1
    obtain ⟨l2, e2⟩ := List.getElem?_eq_some_iff.mp r1
    exact h3 ((List.getElem_inj g.nd').mp (e1.trans e2.symm))
  have pa : PA X [u, v] (tCons (tE X.K W (den Φ a)) (tCons (tE X.K W (den Φ b)) tNil)) := pa_cons ha (pa_cons hb pa_nil (star1 h5)) (star1 h4)
  rw [Bool.or_eq_true] at h6
  rcases h6 with h6 | h6
  · have l1 : X.env.scope.names.lookup x = some .local ∧ X.env.scope.names.lookup y = some .local := by
      rw [g.sc]
      unfold parSw at h6
      simp only [Bool.and_eq_true, beq_iff_eq] at h6
      exact h6.1.1.1
    exact s_par h3 (ps_par g.calm g.nd' q1 r1 h3 l1.1 l1.2 pa (sw_par g.kd h4 h5 hxy (by rw [g.sc]; exact h6)) rfl)
  · refine s_parT h3 (ps_asg (pe_tup pa) (pg_tup g.calm (pgs_cons (pg_name g.nd' q1 q2 q3) (pgs_cons (pg_name g.nd' r1 r2 r3) pgs_nil rfl) rfl) rfl rfl) rfl (sw_parNo g.kd h4 h5 hxy (by rw [g.sc]; exact h6)) rfl)
theorem z_aug (g : Good X c W Φ k) {i : Nat} {o : BOp} {e : E} {x : Str} {op : Operator} {v : Expr} {p pos : Pos} (h1 : locB c i x = true) (h2 : bopB o op = true) (h3 : augOk o = true) (h4 : PE X v (tE X.K W (den Φ e))) : PS X (.AugAssign (.Name x p) op v pos) (tS X.K W (exec Φ (.aug i o e))) := by
  obtain ⟨q1, q2, q3⟩ := g.loc h1
  exact s_aug (ps_aug g.nd' q1 q2 h4 (aug_int o op (bopB_eq h2) (by cases o <;> simp [augOk] at h3 ⊢)) q3)
theorem z_setK (g : Good X c W Φ k) {o kk e : E} {x y v : Expr} {p pos : Pos} (h1 : noSlice y = true) (h2 : noComp v = true) (ho : PE X x (tE X.K W (den Φ o))) (hk : PE X y (tE X.K W (den Φ kk))) (he : PE X v (tE X.K W (den Φ e))) : PS X (.Assign [.Subscript x y p] v pos) (tS X.K W (exec Φ (.setK o kk e))) := by
  refine s_setK (ps_asg (s_hand he) (pg_sub ho hk (p_put (by have := g.hu; omega)) (fun w => ?_)) (by unfold swapsWithSole; exact sw_no h2) ?_ rfl)
  · cases y <;> first | rfl | cases h1
  · cases v <;> rfl
theorem z_app (g : Good X c W Φ k) {i : Nat} {e : E} {x : Str} {v : Expr} {p apos cpos pos : Pos} (h1 : (apos.endLine == cpos.line) = true) (h2 : visB c i x = true) (h3 : noStar v = true) (he : PE X v (tE X.K W (den Φ e))) : PS X (.Expr (.Call (.Attribute (.Name x p) "append" apos) [v] [] cpos) pos) (tS X.K W (exec Φ (.app i e))) := by
  obtain ⟨q1, q2, q3, q4⟩ := g.vis h2
  refine s_app (ps_expr (pe_bm PySem.F.plainAttrs_list PySem.F.slot_list_append PySem.F.type_list_append mt_append (pe_var q1 q2 q3 q4) (pa_cons (s_hand he) pa_nil (star1 h3)) rfl ?_ h1 (star1 h3) rfl) rfl)
  rw [star1 h3]
  rfl
theorem g_ne {i j : Nat} {x y : Str} (g : Good X c W Φ k) (h : i ≠ j) (h1 : X.N[i]? = some x) (h2 : X.N[j]? = some y) : x ≠ y := fun z => by
  subst z
  obtain ⟨l1, e1⟩ := List.getElem?_eq_some_iff.mp h1
  obtain ⟨l2, e2⟩ := List.getElem?_eq_some_iff.mp h2
  exact h ((List.getElem_inj g.nd').mp (e1.trans e2.symm))
theorem z_par3 (g : Good X c W Φ k) {i j l : Nat} {a b d : E} {x y z : Str} {u v w : Expr} {kt k2 : Nat} {px py pz pt pt2 pos : Pos} (h1 : locB c i x = true) (h2 : locB c j y = true) (h3 : locB c l z = true) (hij : i ≠ j) (hil : i ≠ l) (hjl : j ≠ l) (s1 : noStar u = true) (s2 : noStar v = true) (s3 : noStar w = true) (h6 : parSw3 c.sc x y z px py pz u v w = true)
    (ha : PE X u (tE X.K W (den Φ a))) (hb : PE X v (tE X.K W (den Φ b))) (hd : PE X w (tE X.K W (den Φ d))) : PS X (.Assign [.Tuple [.Name x px, .Name y py, .Name z pz] kt pt] (.Tuple [u, v, w] k2 pt2) pos) (tS X.K W (exec Φ (.par3 i j l a b d))) := by
  obtain ⟨q1, q2, q3⟩ := g.loc h1
  obtain ⟨r1, r2, r3⟩ := g.loc h2
  obtain ⟨t1, t2, t3⟩ := g.loc h3
  have pa : PA X [u, v, w] (tCons (tE X.K W (den Φ a)) (tCons (tE X.K W (den Φ b)) (tCons (tE X.K W (den Φ d)) tNil))) := pa_cons ha (pa_cons hb (pa_cons hd pa_nil (star1 s3)) (star1 s2)) (star1 s1)
  have l1 : X.env.scope.names.lookup x = some .local ∧ X.env.scope.names.lookup y = some .local ∧ X.env.scope.names.lookup z = some .local := by
    rw [g.sc]
    unfold parSw3 at h6
    simp only [Bool.and_eq_true, beq_iff_eq] at h6
    exact ⟨h6.1.1.1.1.1.1, h6.1.1.1.1.1.2, h6.1.1.1.1.2⟩
  exact s_par3 (ps_par3 g.calm g.nd' q1 r1 t1 hij hil hjl l1.1 l1.2.1 l1.2.2 pa (sw_par3 g.kd s1 s2 s3 (g_ne g hij q1 r1) (g_ne g hil q1 t1) (g_ne g hjl r1 t1) (by rw [g.sc]; exact h6)) rfl)
theorem z_updK (g : Good X c W Φ k) {i : Nat} {e : E} {x : Str} {v : Expr} {p apos cpos pos : Pos} (h1 : (apos.endLine == cpos.line) = true) (h2 : visB c i x = true) (h3 : noStar v = true) (he : PE X v (tE X.K W (den Φ e))) : PS X (.Expr (.Call (.Attribute (.Name x p) "update" apos) [v] [] cpos) pos) (tS X.K W (exec Φ (.updK i e))) := by
  obtain ⟨q1, q2, q3, q4⟩ := g.vis h2
  refine s_updK (ps_expr (pe_bmK (ty := tyK) PySem.F.plainAttrs_dict PySem.F.slot_dict_update PySem.F.type_dict_update (mt_updK g.calm g.hu) tyK_is (pe_var q1 q2 q3 q4) (pa_cons he pa_nil (star1 h3)) rfl ?_ h1 (star1 h3) rfl) rfl)
  rw [star1 h3]
  rfl
theorem z_ext (g : Good X c W Φ k) {i : Nat} {e : E} {x : Str} {v : Expr} {p apos cpos pos : Pos} (h1 : (apos.endLine == cpos.line) = true) (h2 : visB c i x = true) (h3 : noStar v = true) (he : PE X v (tE X.K W (den Φ e))) : PS X (.Expr (.Call (.Attribute (.Name x p) "extend" apos) [v] [] cpos) pos) (tS X.K W (exec Φ (.ext i e))) := by
  obtain ⟨q1, q2, q3, q4⟩ := g.vis h2
  refine s_ext (ps_expr (pe_bm PySem.F.plainAttrs_list PySem.F.slot_list_extend PySem.F.type_list_extend mt_extend (pe_var q1 q2 q3 q4) (pa_cons he pa_nil (star1 h3)) rfl ?_ h1 (star1 h3) rfl) rfl)
  rw [star1 h3]
  rfl
theorem z_appPop (g : Good X c W Φ k) {i j : Nat} {e : E} {x y : Str} {v : Expr} {p p2 apos cpos apos2 cpos2 pos : Pos} (h1 : (apos.endLine == cpos.line) = true) (h1' : (apos2.endLine == cpos2.line) = true) (h2 : visB c i x = true) (h2' : visB c j y = true) (hij : i ≠ j) (h3 : noStar v = true) (he : PE X v (tE X.K W (den Φ e))) :
    PS X (.Expr (.Call (.Attribute (.Name x p) "append" apos) [.Call (.Attribute (.Name y p2) "pop" apos2) [v] [] cpos2] [] cpos) pos) (tS X.K W (exec Φ (.appPop i j e))) := by
  obtain ⟨q1, q2, q3, q4⟩ := g.vis h2
  obtain ⟨r1, r2, r3, r4⟩ := g.vis h2'
  refine s_appPop hij (ps_expr (pe_bm PySem.F.plainAttrs_list PySem.F.slot_list_append PySem.F.type_list_append mt_append (pe_var q1 q2 q3 q4) (pa_cons (pe_bm PySem.F.plainAttrs_list PySem.F.slot_list_pop PySem.F.type_list_pop mt_popAt (pe_var r1 r2 r3 r4) (pa_cons he pa_nil (star1 h3)) rfl ?_ h1' (star1 h3) rfl) pa_nil) rfl ?_ h1 rfl rfl) rfl)
  all_goals first | rfl | (rw [star1 h3]; rfl)
theorem z_rev (g : Good X c W Φ k) {i : Nat} {x : Str} {p apos cpos pos : Pos} (h1 : (apos.endLine == cpos.line) = true) (h2 : visB c i x = true) : PS X (.Expr (.Call (.Attribute (.Name x p) "reverse" apos) [] [] cpos) pos) (tS X.K W (exec Φ (.rev i))) := by
  obtain ⟨q1, q2, q3, q4⟩ := g.vis h2
  exact s_rev (ps_expr (pe_bm0 PySem.F.plainAttrs_list PySem.F.slot_list_reverse PySem.F.type_list_reverse mt_reverse (pe_var q1 q2 q3 q4) rfl h1) rfl)
end
theorem iS_pass {c : Ck}  {w0 : Stmt} (h : chkS c (S.pass) w0 = true) : ∃ p, w0 = Stmt.Pass p := by
  unfold chkS at h
  split at h <;> first | contradiction | exact ⟨_, rfl⟩ | cases h
theorem iS_brk {c : Ck}  {w0 : Stmt} (h : chkS c (S.brk) w0 = true) : ∃ p, w0 = Stmt.Break p := by
  unfold chkS at h
  split at h <;> first | contradiction | exact ⟨_, rfl⟩ | cases h
theorem iS_cnt {c : Ck}  {w0 : Stmt} (h : chkS c (S.cnt) w0 = true) : ∃ p, w0 = Stmt.Continue p := by
  unfold chkS at h
  split at h <;> first | contradiction | exact ⟨_, rfl⟩ | cases h
theorem iS_asg {c : Ck} {i : Nat} {e : E} {w0 : Stmt} (h : chkS c (S.asg i e) w0 = true) : ∃ x p v pos, w0 = Stmt.Assign [.Name x p] v pos := by
  unfold chkS at h
  split at h <;> first | contradiction | exact ⟨_, _, _, _, rfl⟩ | cases h
theorem iS_asgLc {c : Ck} {i : Nat} {own : List (Str × Nat)} {t : T} {it : I} {b : B} {e : E} {w0 : Stmt} (h : chkS c (S.asgLc i own t it b e) w0 = true) : ∃ y py elt tg iter ifs scope lp pos, w0 = Stmt.Assign [.Name y py] (.ListComp elt [⟨tg, iter, ifs, 0⟩] scope lp) pos := by
  unfold chkS at h
  split at h <;> first | contradiction | exact ⟨_, _, _, _, _, _, _, _, _, rfl⟩ | cases h
theorem iS_asgLc2 {c : Ck} {i : Nat} {own : List (Str × Nat)} {vs1 : List Nat} {t t2 : T} {it it2 : I} {b b2 : B} {e : E} {w0 : Stmt} (h : chkS c (S.asgLc2 i own vs1 t it b t2 it2 b2 e) w0 = true) : ∃ y py elt tg iter ifs tg2 iter2 ifs2 scope lp pos, w0 = Stmt.Assign [.Name y py] (.ListComp elt [⟨tg, iter, ifs, 0⟩, ⟨tg2, iter2, ifs2, 0⟩] scope lp) pos := by
  unfold chkS at h
  split at h <;> first | contradiction | exact ⟨_, _, _, _, _, _, _, _, _, _, _, _, rfl⟩ | cases h
theorem iS_unp {c : Ck} {ts : Ts} {e : E} {w0 : Stmt} (h : chkS c (S.unp ts e) w0 = true) : ∃ es kk p v pos, w0 = Stmt.Assign [.Tuple es kk p] v pos := by
  unfold chkS at h
  split at h <;> first | contradiction | exact ⟨_, _, _, _, _, rfl⟩ | cases h
theorem iS_par {c : Ck} {i j : Nat} {a b : E} {w0 : Stmt} (h : chkS c (S.par i j a b) w0 = true) : ∃ x px y py kt pt u v k2 pt2 pos, w0 = Stmt.Assign [.Tuple [.Name x px, .Name y py] kt pt] (.Tuple [u, v] k2 pt2) pos := by
  unfold chkS at h
  split at h <;> first | contradiction | exact ⟨_, _, _, _, _, _, _, _, _, _, _, rfl⟩ | cases h
theorem iS_aug {c : Ck} {i : Nat} {o : BOp} {e : E} {w0 : Stmt} (h : chkS c (S.aug i o e) w0 = true) : ∃ x p op v pos, w0 = Stmt.AugAssign (.Name x p) op v pos := by
  unfold chkS at h
  split at h <;> first | contradiction | exact ⟨_, _, _, _, _, rfl⟩ | cases h
theorem iS_setK {c : Ck} {o k e : E} {w0 : Stmt} (h : chkS c (S.setK o k e) w0 = true) : ∃ x y p v pos, w0 = Stmt.Assign [.Subscript x y p] v pos := by
  unfold chkS at h
  split at h <;> first | contradiction | exact ⟨_, _, _, _, _, rfl⟩ | cases h
theorem iS_app {c : Ck} {i : Nat} {e : E} {w0 : Stmt} (h : chkS c (S.app i e) w0 = true) : ∃ x p nm apos v cpos pos, w0 = Stmt.Expr (.Call (.Attribute (.Name x p) nm apos) [v] [] cpos) pos := by
  unfold chkS at h
  split at h <;> first | contradiction | exact ⟨_, _, _, _, _, _, _, rfl⟩ | cases h
theorem iS_rev {c : Ck} {i : Nat} {w0 : Stmt} (h : chkS c (S.rev i) w0 = true) : ∃ x p nm apos cpos pos, w0 = Stmt.Expr (.Call (.Attribute (.Name x p) nm apos) [] [] cpos) pos := by
  unfold chkS at h
  split at h <;> first | contradiction | exact ⟨_, _, _, _, _, _, rfl⟩ | cases h
theorem iS_updK {c : Ck} {i : Nat} {e : E} {w0 : Stmt} (h : chkS c (S.updK i e) w0 = true) : ∃ x p nm apos v cpos pos, w0 = Stmt.Expr (.Call (.Attribute (.Name x p) nm apos) [v] [] cpos) pos := by
  unfold chkS at h
  split at h <;> first | contradiction | exact ⟨_, _, _, _, _, _, _, rfl⟩ | (cases h; done)
theorem iS_ext {c : Ck} {i : Nat} {e : E} {w0 : Stmt} (h : chkS c (S.ext i e) w0 = true) : ∃ x p nm apos v cpos pos, w0 = Stmt.Expr (.Call (.Attribute (.Name x p) nm apos) [v] [] cpos) pos := by
  unfold chkS at h
  split at h <;> first | contradiction | exact ⟨_, _, _, _, _, _, _, rfl⟩ | (cases h; done)
theorem iS_appPop {c : Ck} {i j : Nat} {e : E} {w0 : Stmt} (h : chkS c (S.appPop i j e) w0 = true) : ∃ x p nm apos y p2 nm2 apos2 v cpos2 cpos pos, w0 = Stmt.Expr (.Call (.Attribute (.Name x p) nm apos) [.Call (.Attribute (.Name y p2) nm2 apos2) [v] [] cpos2] [] cpos) pos := by
  unfold chkS at h
  split at h <;> first | contradiction | exact ⟨_, _, _, _, _, _, _, _, _, _, _, _, rfl⟩ | (cases h; done)
theorem iS_par3 {c : Ck} {i j l : Nat} {a b d : E} {w0 : Stmt} (h : chkS c (S.par3 i j l a b d) w0 = true) : ∃ x px y py z pz kt pt u v w k2 pt2 pos, w0 = Stmt.Assign [.Tuple [.Name x px, .Name y py, .Name z pz] kt pt] (.Tuple [u, v, w] k2 pt2) pos := by
  unfold chkS at h
  split at h <;> first | contradiction | exact ⟨_, _, _, _, _, _, _, _, _, _, _, _, _, _, rfl⟩ | (cases h; done)
theorem iS_expr {c : Ck} {e : E} {w0 : Stmt} (h : chkS c (S.expr e) w0 = true) : ∃ v pos, w0 = Stmt.Expr v pos := by
  unfold chkS at h
  split at h <;> first | contradiction | exact ⟨_, _, rfl⟩ | cases h
theorem iS_ret {c : Ck} {e : E} {w0 : Stmt} (h : chkS c (S.ret e) w0 = true) : ∃ v pos, w0 = Stmt.Return (some v) pos := by
  unfold chkS at h
  split at h <;> first | contradiction | exact ⟨_, _, rfl⟩ | cases h
theorem iS_retO {c : Ck} {i : Nat} {w0 : Stmt} (h : chkS c (S.retO i) w0 = true) : ∃ x p pos, w0 = Stmt.Return (some (.Name x p)) pos := by
  unfold chkS at h
  split at h <;> first | contradiction | exact ⟨_, _, _, rfl⟩ | cases h
theorem iS_retN {c : Ck}  {w0 : Stmt} (h : chkS c (S.retN) w0 = true) : ∃ pos, w0 = Stmt.Return none pos := by
  unfold chkS at h
  split at h <;> first | contradiction | exact ⟨_, rfl⟩ | cases h
theorem iS_iff {c : Ck} {b : B} {a d : Ss} {w0 : Stmt} (h : chkS c (S.iff b a d) w0 = true) : ∃ t us vs pos, w0 = Stmt.If t us vs pos := by
  unfold chkS at h
  split at h <;> first | contradiction | exact ⟨_, _, _, _, rfl⟩ | cases h
theorem iS_for {c : Ck} {t : T} {it : I} {b : Ss} {w0 : Stmt} (h : chkS c (S.for t it b) w0 = true) : ∃ tg iter body pos, w0 = Stmt.For tg iter body [] pos := by
  unfold chkS at h
  split at h <;> first | contradiction | exact ⟨_, _, _, _, rfl⟩ | cases h
theorem iS_whl {c : Ck} {n : Nat} {b : B} {a : Ss} {w0 : Stmt} (h : chkS c (S.whl n b a) w0 = true) : ∃ t body pos, w0 = Stmt.While t body [] pos := by
  unfold chkS at h
  split at h <;> first | contradiction | exact ⟨_, _, _, rfl⟩ | cases h
theorem iS_raise0 {c : Ck} {x : Str} {w0 : Stmt} (h : chkS c (S.raise0 x) w0 = true) : ∃ y p p2 pos, w0 = Stmt.Raise (some (.Call (.Name y p) [] [] p2)) none pos := by
  unfold chkS at h
  split at h <;> first | contradiction | exact ⟨_, _, _, _, rfl⟩ | cases h
theorem iS_tryS {c : Ck} {b : Ss} {hs : Hs} {w0 : Stmt} (h : chkS c (S.tryS b hs) w0 = true) : ∃ body h0 hds pos, w0 = Stmt.Try body (h0 :: hds) [] [] pos := by
  unfold chkS at h
  split at h <;> first | contradiction | exact ⟨_, _, _, _, rfl⟩ | cases h
theorem iS_raise1 {c : Ck} {x f : Str} {e : E} {w0 : Stmt} (h : chkS c (S.raise1 x f e) w0 = true) : ∃ y p v p2 pos, w0 = Stmt.Raise (some (.Call (.Name y p) [v] [] p2)) none pos := by
  unfold chkS at h
  split at h <;> first | contradiction | exact ⟨_, _, _, _, _, rfl⟩ | cases h
def isFrz : S → Bool
  | .frz _ => true
  | .frzK _ => true
  | _ => false
theorem sq {X : Cx} {c : Ck} {W : WX} {Φ : Tb} {s : S} {r : Ss} {w0 : List Stmt} (h1 : ∀ x, chkS c s x = true → PS X x (tS X.K W (exec Φ s))) (h2 : ∀ xs, chkSs c r xs = true → PSs X xs (tS X.K W (execs Φ r))) (hf : isFrz s = false) (h : chkSs c (.cons s r) w0 = true) : PSs X w0 (tS X.K W (execs Φ (.cons s r))) := by
  cases w0 with
  | nil => cases s <;> first | (simp [chkSs] at h; done) | cases hf
  | cons x xs =>
    have h : chkS c s x = true ∧ chkSs c r xs = true := by
      cases s <;> first | (simpa only [chkSs, Bool.and_eq_true] using h) | cases hf
    exact s_seq (h1 x h.1) (h2 xs h.2)
mutual
theorem sndS {X : Cx} {c : Ck} {W : WX} {Φ : Tb} {k : Nat} (g : Good X c W Φ k) : ∀ (s : S) (x : Stmt), chkS c s x = true → PS X x (tS X.K W (exec Φ s))
  | .pass, w0, h => by obtain ⟨p, rfl⟩ := iS_pass h; exact s_pass
  | .brk, w0, h => by obtain ⟨p, rfl⟩ := iS_brk h; exact s_brk
  | .cnt, w0, h => by obtain ⟨p, rfl⟩ := iS_cnt h; exact s_cnt
  | .asg i e, w0, h => by
    obtain ⟨x, p, v, pos, rfl⟩ := iS_asg h
    simp only [chkS, Bool.and_eq_true] at h
    exact z_asg g h.1.1 h.1.2 (sndE g e v h.2)
  | .asgLc i own t it b e, w0, h => by
    obtain ⟨y, py, elt, tg, iter, ifs, scope, lp, pos, rfl⟩ := iS_asgLc h
    rw [chkS, Bool.and_eq_true] at h
    exact z_lc g h.1 h.2
  | .asgLc2 i own vs1 t it b t2 it2 b2 e, w0, h => by
    obtain ⟨y, py, elt, tg, iter, ifs, tg2, iter2, ifs2, scope, lp, pos, rfl⟩ := iS_asgLc2 h
    rw [chkS, Bool.and_eq_true] at h
    exact z_lc2 g h.1 h.2
  | .unp ts e, w0, h => by
    obtain ⟨es, kk, p, v, pos, rfl⟩ := iS_unp h
    simp only [chkS, Bool.and_eq_true, Bool.not_eq_true'] at h
    exact z_unp g h.1.1.1 h.1.1.2 h.1.2 (sndE g e v h.2)
  | .par i j a b, w0, h => by
    obtain ⟨x, px, y, py, kt, pt, u, v, k2, pt2, pos, rfl⟩ := iS_par h
    rw [chkS] at h
    simp only [Bool.and_eq_true, Bool.not_eq_true', beq_eq_false_iff_ne] at h
    obtain ⟨⟨⟨⟨⟨⟨⟨h1, h2⟩, h3⟩, h4⟩, h5⟩, h6⟩, h7⟩, h8⟩ := h
    exact z_par g h1 h2 h3 h4 h5 h6 (sndE g a u h7) (sndE g b v h8)
  | .aug i o e, w0, h => by
    obtain ⟨x, p, op, v, pos, rfl⟩ := iS_aug h
    simp only [chkS, Bool.and_eq_true] at h
    exact z_aug g h.1.1.1 h.1.1.2 h.1.2 (sndE g e v h.2)
  | .setK o kk e, w0, h => by
    obtain ⟨x, y, p, v, pos, rfl⟩ := iS_setK h
    simp only [chkS, Bool.and_eq_true] at h
    exact z_setK g h.1.1.1.1 h.1.1.1.2 (sndE g o x h.1.1.2) (sndE g kk y h.1.2) (sndE g e v h.2)
  | .app i e, w0, h => by
    obtain ⟨x, p, nm, apos, v, cpos, pos, rfl⟩ := iS_app h
    simp only [chkS, Bool.and_eq_true, decide_eq_true_eq] at h
    obtain ⟨⟨⟨⟨rfl, h2⟩, h3⟩, h4⟩, h5⟩ := h
    exact z_app g h2 h3 h4 (sndE g e v h5)
  | .rev i, w0, h => by
    obtain ⟨x, p, nm, apos, cpos, pos, rfl⟩ := iS_rev h
    simp only [chkS, Bool.and_eq_true, decide_eq_true_eq] at h
    obtain ⟨⟨rfl, h2⟩, h3⟩ := h
    exact z_rev g h2 h3
  | .expr e, w0, h => by
    obtain ⟨v, pos, rfl⟩ := iS_expr h
    simp only [chkS, Bool.and_eq_true] at h
    exact s_expr (ps_expr (sndE g e v h.2) (sw_no h.1))
  | .ret e, w0, h => by
    obtain ⟨v, pos, rfl⟩ := iS_ret h
    exact s_ret (ps_ret (sndE g e v (by simpa only [chkS] using h)))
  | .retO i, w0, h => by
    obtain ⟨x, p, pos, rfl⟩ := iS_retO h
    obtain ⟨q1, q2, q3, q4⟩ := g.vis (by simpa only [chkS] using h)
    exact s_retO (ps_ret (pe_var q1 q2 q3 q4))
  | .retN, w0, h => by obtain ⟨p, rfl⟩ := iS_retN h; exact s_retN
  | .iff b p q, w0, h => by
    obtain ⟨t, us, vs, pos, rfl⟩ := iS_iff h
    simp only [chkS, Bool.and_eq_true] at h
    exact s_if (ps_if (sndB g b t h.1.1).1 (sndSs g p us h.1.2) (sndSs g q vs h.2))
  | .for t it b, w0, h => by
    obtain ⟨tg, iter, body, pos, rfl⟩ := iS_for h
    simp only [chkS, Bool.and_eq_true] at h
    exact s_for (ps_for g.po g.calm (sndI g it tg iter h.1.1.1) (sndT g t tg h.1.1.2) (sndSs g b body h.2) (noFold h.1.2 _))
  | .whl n b p, w0, h => by
    obtain ⟨t, body, pos, rfl⟩ := iS_whl h
    simp only [chkS, Bool.and_eq_true] at h
    exact s_whl n (ps_while g.po (sndB g b t h.1).1 (sndSs g p body h.2))
  | .never, w0, h => s_never
  | .frz i, w0, h => by rw [chkS] at h <;> first | cases h | skip
  | .par3 i j l a b d, w0, h => by
    obtain ⟨x, px, y, py, z, pz, kt, pt, u, v, w, k2, pt2, pos, rfl⟩ := iS_par3 h
    rw [chkS] at h
    simp only [Bool.and_eq_true, Bool.not_eq_true', beq_eq_false_iff_ne] at h
    obtain ⟨⟨⟨⟨⟨⟨⟨⟨⟨⟨⟨⟨h1, h2⟩, h3⟩, h4⟩, h5⟩, h6⟩, h7⟩, h8⟩, h9⟩, h10⟩, h11⟩, h12⟩, h13⟩ := h
    exact z_par3 g h1 h2 h3 h4 h5 h6 h7 h8 h9 h10 (sndE g a u h11) (sndE g b v h12) (sndE g d w h13)
  | .appPop i j e, w0, h => by
    obtain ⟨x, p, nm, apos, y, p2, nm2, apos2, v, cpos2, cpos, pos, rfl⟩ := iS_appPop h
    rw [chkS] at h
    simp only [Bool.and_eq_true, decide_eq_true_eq, Bool.not_eq_true', beq_eq_false_iff_ne] at h
    obtain ⟨⟨⟨⟨⟨⟨⟨⟨rfl, rfl⟩, h2⟩, h3⟩, h4⟩, h5⟩, h6⟩, h7⟩, h8⟩ := h
    exact z_appPop g h2 h3 h4 h5 h6 h7 (sndE g e v h8)
  | .frzK i, w0, h => by rw [chkS] at h <;> first | cases h | skip
  | .updK i e, w0, h => by
    obtain ⟨x, p, nm, apos, v, cpos, pos, rfl⟩ := iS_updK h
    simp only [chkS, Bool.and_eq_true, decide_eq_true_eq] at h
    obtain ⟨⟨⟨⟨rfl, h2⟩, h3⟩, h4⟩, h5⟩ := h
    exact z_updK g h2 h3 h4 (sndE g e v h5)
  | .ext i e, w0, h => by
    obtain ⟨x, p, nm, apos, v, cpos, pos, rfl⟩ := iS_ext h
    simp only [chkS, Bool.and_eq_true, decide_eq_true_eq] at h
    obtain ⟨⟨⟨⟨rfl, h2⟩, h3⟩, h4⟩, h5⟩ := h
    exact z_ext g h2 h3 h4 (sndE g e v h5)
  | .raise0 x, w0, h => by
    obtain ⟨y, p, p2, pos, rfl⟩ := iS_raise0 h
    simp only [chkS, Bool.and_eq_true, decide_eq_true_eq] at h
    obtain ⟨⟨rfl, h2⟩, h3⟩ := h
    exact s_raise0 (g.r0 _ h3) g.calm g.tk (g.gl h2).1 (g.gl h2).2
  | .raise1 x f e, w0, h => by
    obtain ⟨y, p, v, p2, pos, rfl⟩ := iS_raise1 h
    simp only [chkS, Bool.and_eq_true, decide_eq_true_eq] at h
    obtain ⟨⟨⟨⟨rfl, h2⟩, h3⟩, h4⟩, h5⟩ := h
    exact s_raise1 (g.r1 _ _ h3) (g.room.room.mono (by omega)) g.calm g.tk (g.gl h2).1 (g.gl h2).2 (sndE g e v h5) (star1 h4)
  | .tryS b hs, w0, h => by
    obtain ⟨body, h0, hds, pos, rfl⟩ := iS_tryS h
    simp only [chkS, Bool.and_eq_true] at h
    obtain ⟨⟨h1, h2⟩, h3⟩ := h
    obtain ⟨e1, e2⟩ := g.es h1
    obtain ⟨l, hl⟩ := sndHs g hs _ h2
    exact s_try e1 e2 g.nd' g.tk hl fun W' pn xe tk po => sndSs (g.tr tk po) b body h3
theorem sndSs {X : Cx} {c : Ck} {W : WX} {Φ : Tb} {k : Nat} (g : Good X c W Φ k) : ∀ (ss : Ss) (xs : List Stmt), chkSs c ss xs = true → PSs X xs (tS X.K W (execs Φ ss))
  | .nil, w0, h => by
    cases w0 with
    | nil => exact s_nil
    | cons x xs => simp [chkSs] at h
  | .cons (.frz i) r, w0, h => s_frz (sndSs g r w0 (by simpa only [chkSs] using h))
  | .cons (.frzK i) r, w0, h => s_frzK (sndSs g r w0 (by simpa only [chkSs] using h))
  | .cons (.updK i e) r, w0, h => sq (fun x => sndS g (.updK i e) x) (fun xs => sndSs g r xs) rfl h
  | .cons (.pass) r, w0, h => sq (fun x => sndS g (.pass) x) (fun xs => sndSs g r xs) rfl h
  | .cons (.brk) r, w0, h => sq (fun x => sndS g (.brk) x) (fun xs => sndSs g r xs) rfl h
  | .cons (.cnt) r, w0, h => sq (fun x => sndS g (.cnt) x) (fun xs => sndSs g r xs) rfl h
  | .cons (.asg i e) r, w0, h => sq (fun x => sndS g (.asg i e) x) (fun xs => sndSs g r xs) rfl h
  | .cons (.asgLc i own t it b e) r, w0, h => sq (fun x => sndS g (.asgLc i own t it b e) x) (fun xs => sndSs g r xs) rfl h
  | .cons (.asgLc2 i own vs1 t it b t2 it2 b2 e) r, w0, h => sq (fun x => sndS g (.asgLc2 i own vs1 t it b t2 it2 b2 e) x) (fun xs => sndSs g r xs) rfl h
  | .cons (.unp ts e) r, w0, h => sq (fun x => sndS g (.unp ts e) x) (fun xs => sndSs g r xs) rfl h
  | .cons (.par i j a b) r, w0, h => sq (fun x => sndS g (.par i j a b) x) (fun xs => sndSs g r xs) rfl h
  | .cons (.aug i o e) r, w0, h => sq (fun x => sndS g (.aug i o e) x) (fun xs => sndSs g r xs) rfl h
  | .cons (.setK o k e) r, w0, h => sq (fun x => sndS g (.setK o k e) x) (fun xs => sndSs g r xs) rfl h
  | .cons (.app i e) r, w0, h => sq (fun x => sndS g (.app i e) x) (fun xs => sndSs g r xs) rfl h
  | .cons (.rev i) r, w0, h => sq (fun x => sndS g (.rev i) x) (fun xs => sndSs g r xs) rfl h
  | .cons (.expr e) r, w0, h => sq (fun x => sndS g (.expr e) x) (fun xs => sndSs g r xs) rfl h
  | .cons (.ret e) r, w0, h => sq (fun x => sndS g (.ret e) x) (fun xs => sndSs g r xs) rfl h
  | .cons (.retO i) r, w0, h => sq (fun x => sndS g (.retO i) x) (fun xs => sndSs g r xs) rfl h
  | .cons (.retN) r, w0, h => sq (fun x => sndS g (.retN) x) (fun xs => sndSs g r xs) rfl h
  | .cons (.iff b p q) r, w0, h => sq (fun x => sndS g (.iff b p q) x) (fun xs => sndSs g r xs) rfl h
  | .cons (.for t it b) r, w0, h => sq (fun x => sndS g (.for t it b) x) (fun xs => sndSs g r xs) rfl h
  | .cons (.whl n b p) r, w0, h => sq (fun x => sndS g (.whl n b p) x) (fun xs => sndSs g r xs) rfl h
  | .cons (.par3 i j l a b d) r, w0, h => sq (fun x => sndS g (.par3 i j l a b d) x) (fun xs => sndSs g r xs) rfl h
  | .cons (.appPop i j e) r, w0, h => sq (fun x => sndS g (.appPop i j e) x) (fun xs => sndSs g r xs) rfl h
  | .cons (.ext i e) r, w0, h => sq (fun x => sndS g (.ext i e) x) (fun xs => sndSs g r xs) rfl h
  | .cons (.raise0 x) r, w0, h => sq (fun x' => sndS g (.raise0 x) x') (fun xs => sndSs g r xs) rfl h
  | .cons (.raise1 x f e) r, w0, h => sq (fun x' => sndS g (.raise1 x f e) x') (fun xs => sndSs g r xs) rfl h
  | .cons (.tryS b hs) r, w0, h => sq (fun x => sndS g (.tryS b hs) x) (fun xs => sndSs g r xs) rfl h
  | .cons (.never) r, w0, h => sq (fun x => sndS g (.never) x) (fun xs => sndSs g r xs) rfl h
end
end WB
namespace WB
open PySem L2

/-- a def as the table has it: its name, its text, its slots, its parameters, its body in the small language -/
structure Dn where
  x : Str
  st : Stmt
  N : List Str
  ps : List Str
  body : Ss
def Dn.fn (d : Dn) : Fn := ⟨d.ps.length, d.N.length, d.body⟩
def scB (N ps : List Str) (sc : Scope) : Bool := (sc.kind == .function) && !sc.isCoroutine && !sc.isGenerator && decide N.Nodup && decide (N.take ps.length = ps) && ps.all (fun x => sc.names.lookup x == some .local || sc.names.lookup x == some .cell) && sc.names.all (fun y => !(y.2 == .free))
theorem scB_ok {N ps : List Str} {sc : Scope} (h : scB N ps sc = true) : FnScope N ps sc := by
  unfold scB at h
  simp only [Bool.and_eq_true, Bool.not_eq_true', decide_eq_true_eq, beq_iff_eq, List.all_eq_true, Bool.or_eq_true, beq_eq_false_iff_ne] at h
  obtain ⟨⟨⟨⟨⟨⟨h1, h2⟩, h3⟩, h4⟩, h5⟩, h6⟩, h7⟩ := h
  exact ⟨h1, h2, h3, h4, h5, h6, h7⟩
def chkD (fns cst : List (Str × Nat)) (ct : CT) (d : Dn) : Bool := scB d.N d.ps (defScope d.st) && chkSs ⟨d.N, defScope d.st, fun _ => true, fns, cst, ct, true⟩ d.body (defBody d.st)
/-- the classes of errors are as the table tells -/
structure CtOk (K : PySem.W.Frag) (mg : Str → Option Value) (ct : CT) : Prop where
  r0 : ∀ x ∈ ct.r0, Rs0Ok K mg x
  r1 : ∀ x f, (x, f) ∈ ct.r1 → Rs1Ok K mg x f
  sb : ∀ x t b, (x, t, b) ∈ ct.sb → SubOk K mg x t b
  is : ∀ x t b, (x, t, b) ∈ ct.is → IsOk K mg x t b
  fl : ∀ x f, (x, f) ∈ ct.fl → FldOk K x f
def ct0 : CT := ⟨[], [], [], [], []⟩
theorem ctOk0 {K : PySem.W.Frag} {mg : Str → Option Value} : CtOk K mg ct0 := ⟨(fun _ h => nomatch h), (fun _ _ h => nomatch h), (fun _ _ _ h => nomatch h), (fun _ _ _ h => nomatch h), (fun _ _ h => nomatch h)⟩
/-- how its arguments bind -/
def BindsA (fd : FuncData) (ps : List Str) : Prop := ∀ us : List Value, us.length = ps.length → bindArgs fd ⟨us, []⟩ = pure (ps.zip us)
def Has (K : PySem.W.Frag) (mg : Str → Option Value) (d : Dn) : Prop := ∃ f fd, mg d.x = some (.ref f) ∧ Fun K d.x d.x d.st f fd ∧ BindsA fd d.ps
def bltNames : List Str := ["len", "all", "sum", "tuple", "list", "abs", "int", "repr", "sorted", "set", "isinstance", "bool", "str", "dict", "range", "enumerate", "zip", "min", "max"]
theorem tab_G {P : Program} {w : World} {K : PySem.W.Frag} {mg : Str → Option Value} {base : Heap} {tab : List Dn} {fns cstN : List (Str × Nat)} {cst : Nat → Option D} {ct : CT} (hct : CtOk K mg ct) (hsm : ∃ o, base.get? sysModules = some o)
    (hn : ∀ x i, (x, i) ∈ fns → ∃ d, tab[i]? = some d ∧ d.x = x) (hc : ∀ x j d, (x, j) ∈ cstN → cst j = some d → ∃ v u, mg x = some u ∧ RelV v u ∧ ∀ G H, Rl0 K G H v d) (hb : ∀ x ∈ bltNames, mg x = none) (hh : ∀ d ∈ tab, Has K mg d) (hk : ∀ d ∈ tab, chkD fns cstN ct d = true) :
    ∀ (k i : Nat) (d : Dn), tab[i]? = some d → ∃ f fd, mg d.x = some (.ref f) ∧ Fun K d.x d.x d.st f fd ∧ BindsA fd d.ps ∧ FnG P w K mg base k f fd d.ps (fnAt (tab.map Dn.fn) cst k i) := by
  intro k
  induction k with
  | zero =>
    intro i d hi
    obtain ⟨f, fd, h1, h2, h3⟩ := hh d (List.mem_of_getElem? hi)
    exact ⟨f, fd, h1, h2, h3, ⟨fun A outer s H args us vs G ds S Q E hr e0 hb hl r rl R hp => hp.elim, fun ds S z => absurd rfl z⟩⟩
  | succ k ih =>
    intro i d hi
    obtain ⟨f, fd, h1, h2, h3⟩ := hh d (List.mem_of_getElem? hi)
    have hd := hk d (List.mem_of_getElem? hi)
    unfold chkD at hd
    rw [Bool.and_eq_true] at hd
    have Sc := scB_ok hd.1
    have e : fnAt (tab.map Dn.fn) cst (k + 1) i = callM ⟨fnAt (tab.map Dn.fn) cst k, cst⟩ d.fn := by
      funext args
      show (match (tab.map Dn.fn)[i]? with | some fn => callM ⟨fnAt (tab.map Dn.fn) cst k, cst⟩ fn args | none => M.bad) = _
      rw [List.getElem?_map, hi]
      rfl
    rw [e]
    refine ⟨f, fd, h1, h2, h3, fnG_of h2 Sc rfl rfl fun cdv A outer s H E hr => sndSs (c := ⟨d.N, defScope d.st, fun _ => true, fns, cstN, ct, true⟩) (k := k) ?_ d.body _ hd.2⟩
    exact {
      N := rfl
      nd := Sc.nd
      sc := rfl
      fn := rfl
      calm := rfl
      kind := Sc.kind
      tk := takes_of rfl rfl rfl rfl
      po := passes_of rfl
      room := hr
      fns := fun x j hx => by
        obtain ⟨d2, q1, q2⟩ := hn x j hx
        obtain ⟨f2, fd2, r1, r2, r3, r4⟩ := ih j d2 q1
        exact ⟨f2, fd2, d2.ps, by rw [← q2]; exact r1, r2.kp, .all r3, r4⟩
      cst := hc
      sm := hsm
      es := fun _ => ⟨rfl, rfl⟩
      r0 := hct.r0
      r1 := hct.r1
      sb := hct.sb
      is := hct.is
      fl := hct.fl
      blt := hb }
/-- the ghost at the start: nothing -/
theorem relS_nil {K : PySem.W.Frag} {H : Hp} : RelS K ⟨fun _ => False, [], [], none⟩ H [] := ⟨fun _ z => z.elim, fun _ z => z.elim, List.nodup_nil, (fun _ z => absurd z List.not_mem_nil), rfl, (fun n a o z => by simp at z), fun p hp => nomatch hp⟩
theorem rls_nums {K : PySem.W.Frag} {G : Gh} {H : Hp} : ∀ ns : List Int, Rls K G H (ns.map V.int) (ns.map D.int)
  | [] => .nil
  | n :: r => .cons (.int n) (rls_nums r)
theorem rl_scr {K : PySem.W.Frag} {H : Hp} {a : Addr} {ns : List Int} (hO : Only H) (hS : SqL K H a (ns.map V.int)) : Rls K ⟨fun _ => False, [], [], none⟩ H [.ref a] [.scr (ns.map D.int)] := by
  refine .cons (.scr ?_ (rls_nums ns)) .nil
  rcases hS with (h | ⟨o, h⟩) | h
  · rcases hO a with z | ⟨o, xs, z⟩
    · rw [z] at h; cases h
    · rw [z] at h; cases h
  · exact .inl ⟨o, h⟩
  · exact .inr (.inr h)
/-- the script's object, and what may be known of it -/
theorem lawG {P : Program} {w : World} {K : PySem.W.Frag} {mg mb : Str → Option Value} {k : Nat} {fa a : Addr} {fd : FuncData} {x : Str} {fn : List D → M D} {t : Shared} {us : List Value} {ns : List Int}
    (kin : K.In t.heap) (gl : t.heap.Ns mainGlobals mg) (bl : t.heap.Ns builtinsNs mb) (bb : ∀ y : Str, y ≠ "__name__" → mb y = bootBuiltins y) (nl : t.heap.NoLimit) (ng : t.gens = #[])
    (at_a : t.heap.get? a = some { cls := .type "list", data := .seq us.toArray }) (iu : PyProof.Rows.IntsAre us ns) (few : ns.length ≤ sizeLine) (room : RoomG k callerA)
    (sm : ∃ mm, t.heap.Ns sysModules mm) (run : ∀ base : Heap, (∃ o, base.get? sysModules = some o) → FnG P w K mg base k fa fd [x] fn) (bind : ∀ (s : Shared) (u : Value), BindsTo s fd ⟨[u], []⟩ [(x, u)]) (due : ∃ S, fn [.scr (ns.map D.int)] [] = .ok (.bl true) S) :
    codeAny (model P w) callerA (.call (.ref fa) ⟨[.ref a], []⟩) (fun r t' => r = .ok (.ret (.bool true)) ∧ OldK t.heap t'.heap ∧ t'.os = t.os ∧ PyProof.Rows.AllBare t'.gens) t := by
  obtain ⟨S, due⟩ := due
  have vals := vals_ints iu
  suffices go : ∀ H : Hp, Only H → SqL K H a (ns.map V.int) → HOk P w H t.heap → (∀ c, H c ≠ none → c = a) → (H a ≠ none → K.lookup a = none) →
      codeAny (model P w) callerA (.call (.ref fa) ⟨[.ref a], []⟩) (fun r t' => r = .ok (.ret (.bool true)) ∧ OldK t.heap t'.heap ∧ t'.os = t.os ∧ PyProof.Rows.AllBare t'.gens) t by
    cases q : K.lookup a with
    | some ob =>
      have z := kin a ob q
      rw [at_a] at z
      cases z
      exact go (fun _ => none) (fun _ => Or.inl rfl) (Or.inr ⟨_, us.toArray, _, q, rfl, rfl, rfl, by rw [List.size_toArray, iu.length]; exact few, by simpa using vals⟩) (fun c u z => by (have z' : (none : Option HO) = some u := z); cases z') (fun c z => (z rfl).elim) (fun z => (z rfl).elim)
    | none =>
      let ob : Obj := { cls := .type "list", data := .seq us.toArray }
      let H : Hp := fun c => if c = a then some (.frz ob (.lst (ns.map V.int))) else none
      have yes : H a = some (.frz ob (.lst (ns.map V.int))) := if_pos rfl
      have not : ∀ c, c ≠ a → H c = none := fun c n => if_neg n
      refine go H (fun c => ?_) (Or.inl (Or.inr ⟨ob, yes⟩)) (fun c u z => ?_) (fun c z => Classical.byContradiction fun n => z (not c n)) (fun _ => q)
      · exact (Classical.em (c = a)).elim (fun e => e ▸ Or.inr ⟨ob, _, yes⟩) fun n => Or.inl (not c n)
      · rcases Classical.em (c = a) with e | n
        · subst e
          rw [yes] at z
          cases z
          exact ⟨at_a, by rw [List.length_map]; exact few, us, _, vals, at_a⟩
        · rw [not c n] at z; cases z
  intro H only sq ok one own
  have low : ∀ {c : Addr} {o : Obj}, t.heap.get? c = some o → H c = none → (hidT t.heap H).get? c = some o := fun z n => hidT_get z n
  have off : ∀ {c : Addr} {o : Obj} {es : Array DictEntry} {ep : Nat}, t.heap.get? c = some o → o.data = .dict es ep → H c = none := fun {c o es ep} z d => by
    refine Classical.byContradiction fun n => ?_
    have z2 := one c n
    subst z2
    rw [at_a] at z
    cases z
    have d2 : Data.seq us.toArray _ = Data.dict es ep := d
    cases d2
  have ns' : ∀ {c : Addr} {m : Str → Option Value}, t.heap.Ns c m → (hidT t.heap H).Ns c m := fun {c m} ⟨o, es, ep, z, d, r⟩ => ⟨o, es, ep, low z (off z d), d, r⟩
  have kin' : K.In (hidT t.heap H) := fun c o z => low (kin c o z) (Classical.byContradiction fun n => by
    have z2 := one c n
    subst z2
    rw [own n] at z
    cases z)
  obtain ⟨mc, l1, l2⟩ := nl
  have env : Env0 P w K mg (hidT t.heap H) callerA [] t H := {
    frames := rfl
    mod := ⟨kin', ns' gl, ⟨mb, ns' bl, bb⟩, ⟨mc, ns' l1, l2⟩⟩
    bs := fun c o z => of_hidT z
    bsz := Nat.le_of_eq (hidT_size _ _)
    funs := trivial
    frf := fun c z => by cases z
    hok := ok
    bare := .of_eq ng }
  have sm' : ∃ o, (hidT t.heap H).get? sysModules = some o := let ⟨_, q⟩ := sm; let ⟨o, _, _, e, _⟩ := ns' q; ⟨o, e⟩
  refine codeAny_mono ((run _ sm').run callerA [] t H ⟨[.ref a], []⟩ [.ref a] [.ref a] ⟨fun _ => False, [], [], none⟩ [.scr (ns.map D.int)] [] (fun v _ => v = .bl true) (fun _ _ _ => False) room env (bind t (.ref a)) rfl (.cons rfl .nil) (rl_scr only sq) relS_nil ?_) fun r t' z => ?_
  · show PostF K _ H (fn [.scr (ns.map D.int)] []) _ _
    rw [due]
    intro v G' H' _ r _
    have r := r.1
    cases r with
    | base r => cases r; rfl
  · cases r with
    | error e =>
      obtain ⟨_, _, _, _, _, _, _, _, _, _, _, _, z⟩ := z
      exact z.elim
    | ok fl =>
      cases fl with
      | ret u =>
        obtain ⟨v, H', os, bare, un, ok', rel, rfl⟩ := z
        obtain rfl : u = Value.bool true := rel
        refine ⟨rfl, OldK.of_keep fun c o z => ?_, os, bare⟩
        cases q : H c with
        | none => exact un.keep c o z q (fun m => by cases m) (fun m => by cases m)
        | some y =>
          obtain z1 | ⟨ob, xs, z1⟩ := only c
          · rw [q] at z1; cases z1
          · have p1 := (ok c _ z1).1
            have p2 := (ok' c _ (un.frzs c ob _ z1)).1
            rw [z] at p1
            cases p1
            exact p2
      | next => exact z.elim
      | brk => exact z.elim
      | cont => exact z.elim
theorem walkG {l : PySem.W.OpenLaw} {n k : Nat} {q : Program} {loose : List Str} {XP : (Str → Option Value) → Heap → Prop} {YP : World → Heap → Prop} {d : DefRec} {K : Params → PySem.W.Frag} {x : Str} {fn : List D → M D}
    (hi : PyProof.Rows.importsNone q = true) (hn : l.most = some n) (hn2 : n ≤ sizeLine) (hdf : d.params.defaults = []) (room : RoomG k callerA) (hY : ∀ (w : World) (h : Heap), YP w h → (K w.params).In h)
    (F : ∀ (w : World) (mg : Str → Option Value) (fa : Addr) (h : Heap), (K w.params).In h → h.Ns mainGlobals mg → mg d.name = some (.ref fa) → ∃ fd : FuncData, (∀ (s : Shared) (u : Value), BindsTo s fd ⟨[u], []⟩ [(x, u)]) ∧ ∀ base : Heap, (∃ o, base.get? sysModules = some o) → FnG l.prog w (K w.params) mg base k fa fd [x] fn)
    (due : ∀ ns : List Int, ns.length ≤ n → ∃ S, fn [.scr (ns.map D.int)] [] = .ok (.bl true) S) : PySem.W.WalkO q loose XP YP l.row.toRowW d [] (fun f vs => PySem.call f vs) :=
  Att.attach_call hn hdf fun w _ _ mg _ fa _ _ _ _ _ _ ns G Y _ _ _ m o i c g => by
    obtain ⟨fd, b, r⟩ := F w mg fa _ (hY w _ Y) G.T.g m
    obtain ⟨mm, e, _⟩ := (G.T.seer hi).mods
    exact lawG (hY w _ Y) G.T.g G.T.b G.T.builtins G.T.nolimit g o i (Nat.le_trans c hn2) room ⟨mm, e⟩ r b (due ns c)
end WB
namespace WB
open PySem L2

/-- m ends with Q, or with an error that X tells -/
def OkM {α : Type} (m : M α) (S : Store) (Q : α → Store → Prop) (X : Exn → Store → Prop) : Prop := match m S with
  | .ok a S' => Q a S'
  | .exc x S' => X x S'
  | .bad => False
/-- the same, shut: nothing looks into it by itself -/
structure Ok {α : Type} (m : M α) (S : Store) (Q : α → Store → Prop) (X : Exn → Store → Prop) : Prop where
  out : OkM m S Q X
theorem Ok_eq {α : Type} (m : M α) (S : Store) (Q : α → Store → Prop) (X : Exn → Store → Prop) : Ok m S Q X = OkM m S Q X := propext ⟨fun h => h.out, fun h => ⟨h⟩⟩
abbrev noX : Exn → Store → Prop := fun _ _ => False
theorem Ok.imp {α : Type} {m : M α} {S : Store} {Q Q' : α → Store → Prop} {X : Exn → Store → Prop} (h : Ok m S Q X) (f : ∀ a S', Q a S' → Q' a S') : Ok m S Q' X := by
  rw [Ok_eq] at *
  unfold OkM at *
  cases e : m S with
  | ok a S' => rw [e] at h; exact f a S' h
  | exc x S' => rw [e] at h; exact h
  | bad => rw [e] at h; exact h
theorem Ok.any {α : Type} {m : M α} {S : Store} {Q : α → Store → Prop} {X : Exn → Store → Prop} (h : Ok m S Q noX) : Ok m S Q X := by
  rw [Ok_eq] at *
  unfold OkM at *
  cases e : m S with
  | ok a S' => rw [e] at h; exact h
  | exc x S' => rw [e] at h; exact h.elim
  | bad => rw [e] at h; exact h
theorem Ok.run {α : Type} {m : M α} {S : Store} {Q : α → Store → Prop} (h : Ok m S Q noX) : ∃ a S', m S = .ok a S' ∧ Q a S' := by
  rw [Ok_eq] at h
  unfold OkM at h
  cases e : m S with
  | ok a S' => rw [e] at h; exact ⟨a, S', rfl, h⟩
  | exc x S' => rw [e] at h; exact h.elim
  | bad => rw [e] at h; exact h.elim
theorem Ok.of {α : Type} {m : M α} {S S' : Store} {Q : α → Store → Prop} {X : Exn → Store → Prop} {a : α} (e : m S = .ok a S') (h : Q a S') : Ok m S Q X := by
  rw [Ok_eq]
  unfold OkM
  rw [e]
  exact h
@[simp] theorem Ok_ret {α : Type} (a : α) (S : Store) (Q : α → Store → Prop) (X : Exn → Store → Prop) : Ok (M.ret a) S Q X = Q a S := Ok_eq _ _ _ _
@[simp] theorem Ok_bad {α : Type} (S : Store) (Q : α → Store → Prop) (X : Exn → Store → Prop) : Ok (M.bad : M α) S Q X = False := Ok_eq _ _ _ _
@[simp] theorem Ok_bnd {α β : Type} (m : M α) (f : α → M β) (S : Store) (Q : β → Store → Prop) (X : Exn → Store → Prop) : Ok (M.bnd m f) S Q X = Ok m S (fun a S' => Ok (f a) S' Q X) X := by
  simp only [Ok_eq]
  unfold OkM M.bnd
  cases m S <;> rfl
@[simp] theorem Ok_some {α : Type} (a : α) (S : Store) (Q : α → Store → Prop) (X : Exn → Store → Prop) : Ok (M.ofO (some a)) S Q X = Q a S := Ok_eq _ _ _ _
@[simp] theorem Ok_none {α : Type} (S : Store) (Q : α → Store → Prop) (X : Exn → Store → Prop) : Ok (M.ofO (none : Option α)) S Q X = False := Ok_eq _ _ _ _
@[simp] theorem Ok_calm {α : Type} (m : M α) (S : Store) (Q : α → Store → Prop) (X : Exn → Store → Prop) : Ok (M.calm m) S Q X = Ok m S Q noX := by
  simp only [Ok_eq]
  unfold OkM M.calm
  cases m S <;> rfl
@[simp] theorem Ok_try {α : Type} (m : M α) (ρ : Env) (f : α → M Fl) (S : Store) (Q : Fl → Store → Prop) (X : Exn → Store → Prop) : Ok (tryM m ρ f) S Q X = Ok m S (fun a S' => Ok (f a) S' Q X) (fun x S' => Q (.ex x ρ) S') := by
  simp only [Ok_eq]
  unfold OkM tryM
  cases m S <;> rfl
/-- what follows in a block -/
def Nx (Q : Fl → Store → Prop) (X : Exn → Store → Prop) (f : Env → M Fl) (fl : Fl) (S : Store) : Prop := match fl with
  | .nx ρ => Ok (f ρ) S Q X
  | fl => Q fl S
section
variable (Q : Fl → Store → Prop) (X : Exn → Store → Prop) (f : Env → M Fl) (ρ : Env) (S : Store)
@[simp] theorem Nx_nx : Nx Q X f (.nx ρ) S = Ok (f ρ) S Q X := rfl
@[simp] theorem Nx_rt (d : D) : Nx Q X f (.rt d) S = Q (.rt d) S := rfl
@[simp] theorem Nx_bk : Nx Q X f (.bk ρ) S = Q (.bk ρ) S := rfl
@[simp] theorem Nx_ct : Nx Q X f (.ct ρ) S = Q (.ct ρ) S := rfl
@[simp] theorem Nx_ex (x : Exn) : Nx Q X f (.ex x ρ) S = Q (.ex x ρ) S := rfl
end
@[simp] theorem Ok_seq (m : M Fl) (f : Env → M Fl) (S : Store) (Q : Fl → Store → Prop) (X : Exn → Store → Prop) : Ok (seqM m f) S Q X = Ok m S (Nx Q X f) X := by
  rw [Ok_eq, Ok_eq]
  unfold OkM seqM
  cases m S with
  | ok a S' =>
    cases a with
    | nx ρ => exact (Ok_eq (f ρ) S' Q X).symm
    | rt d => rfl
    | bk ρ => rfl
    | ct ρ => rfl
    | ex x ρ => rfl
  | exc x S' => rfl
  | bad => rfl
@[simp] theorem Ok_nil (Φ : Tb) (ρ : Env) (S : Store) (Q : Fl → Store → Prop) (X : Exn → Store → Prop) : Ok (execs Φ .nil ρ) S Q X = Q (.nx ρ) S := Ok_eq _ _ _ _
@[simp] theorem Ok_cons (Φ : Tb) (s : WB.S) (r : Ss) (ρ : Env) (S : Store) (Q : Fl → Store → Prop) (X : Exn → Store → Prop) : Ok (execs Φ (.cons s r) ρ) S Q X = Ok (exec Φ s ρ) S (Nx Q X (execs Φ r)) X := by
  rw [show execs Φ (.cons s r) ρ = seqM (exec Φ s ρ) (execs Φ r) from rfl, Ok_seq]
theorem Ok_ite {α : Type} {c : Prop} [Decidable c] {m m' : M α} {S : Store} {Q : α → Store → Prop} {X : Exn → Store → Prop} : Ok (if c then m else m') S Q X = if c then Ok m S Q X else Ok m' S Q X := by
  by_cases h : c <;> simp [h]
/-- through a try -/
def Ct (Q : Fl → Store → Prop) (X : Exn → Store → Prop) (h : Exn → Env → M Fl) (fl : Fl) (S : Store) : Prop := match fl with
  | .ex x ρ => Ok (h x ρ) S Q X
  | fl => Q fl S
section
variable (Q : Fl → Store → Prop) (X : Exn → Store → Prop) (h : Exn → Env → M Fl) (ρ : Env) (S : Store)
@[simp] theorem Ct_nx : Ct Q X h (.nx ρ) S = Q (.nx ρ) S := rfl
@[simp] theorem Ct_rt (d : D) : Ct Q X h (.rt d) S = Q (.rt d) S := rfl
@[simp] theorem Ct_bk : Ct Q X h (.bk ρ) S = Q (.bk ρ) S := rfl
@[simp] theorem Ct_ct : Ct Q X h (.ct ρ) S = Q (.ct ρ) S := rfl
@[simp] theorem Ct_ex (x : Exn) : Ct Q X h (.ex x ρ) S = Ok (h x ρ) S Q X := rfl
end
@[simp] theorem Ok_catch (m : M Fl) (h : Exn → Env → M Fl) (S : Store) (Q : Fl → Store → Prop) (X : Exn → Store → Prop) : Ok (catchM m h) S Q X = Ok m S (Ct Q X h) X := by
  rw [Ok_eq, Ok_eq]
  unfold OkM catchM
  cases m S with
  | ok a S' =>
    cases a with
    | ex x ρ => exact (Ok_eq (h x ρ) S' Q X).symm
    | nx ρ => rfl
    | rt d => rfl
    | bk ρ => rfl
    | ct ρ => rfl
  | exc x S' => rfl
  | bad => rfl
/-- a suite's end -/
def Cl (Q : Fl → Store → Prop) (i : Option Nat) (fl : Fl) (S : Store) : Prop := match fl with
  | .nx ρ => Q (.nx (wipe1 ρ i)) S
  | .rt d => Q (.rt d) S
  | _ => False
section
variable (Q : Fl → Store → Prop) (i : Option Nat) (ρ : Env) (S : Store)
@[simp] theorem Cl_nx : Cl Q i (.nx ρ) S = Q (.nx (wipe1 ρ i)) S := rfl
@[simp] theorem Cl_rt (d : D) : Cl Q i (.rt d) S = Q (.rt d) S := rfl
end
@[simp] theorem Ok_clear (i : Option Nat) (m : M Fl) (S : Store) (Q : Fl → Store → Prop) (X : Exn → Store → Prop) : Ok (clearM i m) S Q X = Ok m S (Cl Q i) noX := by
  rw [Ok_eq, Ok_eq]
  unfold OkM clearM
  cases m S with
  | ok a S' => cases a <;> rfl
  | exc x S' => rfl
  | bad => rfl
/-- a def's end -/
def EndF (Q : D → Store → Prop) (X : Exn → Store → Prop) (fl : Fl) (S : Store) : Prop := match fl with
  | .nx _ => Q .non S
  | .rt d => Q d S
  | .ex x _ => X x S
  | _ => False
section
variable (Q : D → Store → Prop) (X : Exn → Store → Prop) (ρ : Env) (S : Store)
@[simp] theorem EndF_rt (d : D) : EndF Q X (.rt d) S = Q d S := rfl
@[simp] theorem EndF_nx : EndF Q X (.nx ρ) S = Q .non S := rfl
@[simp] theorem EndF_ex (x : Exn) : EndF Q X (.ex x ρ) S = X x S := rfl
end
theorem Ok_call {Φ : Tb} {f : Fn} {args : List D} {S : Store} {Q : D → Store → Prop} {X : Exn → Store → Prop} (hl : args.length = f.many) (h : Ok (execs Φ f.body (args.map some ++ List.replicate (f.slots - args.length) none)) S (EndF Q X) noX) : Ok (callM Φ f args) S Q X := by
  obtain ⟨a, S', e, q⟩ := h.run
  rw [Ok_eq]
  unfold OkM callM
  rw [if_pos hl, e]
  cases a with
  | nx _ => exact q
  | rt d => exact q
  | bk _ => exact q.elim
  | ct _ => exact q.elim
  | ex _ _ => exact q
/-- through a loop -/
def Lp (Q : Fl → Store → Prop) (P : Env → Store → Prop) (fl : Fl) (S : Store) : Prop := match fl with
  | .nx ρ => P ρ S
  | .ct ρ => P ρ S
  | .bk ρ => Q (.nx ρ) S
  | fl => Q fl S
section
variable (Q : Fl → Store → Prop) (P : Env → Store → Prop) (ρ : Env) (S : Store)
@[simp] theorem Lp_nx : Lp Q P (.nx ρ) S = P ρ S := rfl
@[simp] theorem Lp_ct : Lp Q P (.ct ρ) S = P ρ S := rfl
@[simp] theorem Lp_bk : Lp Q P (.bk ρ) S = Q (.nx ρ) S := rfl
@[simp] theorem Lp_rt (d : D) : Lp Q P (.rt d) S = Q (.rt d) S := rfl
@[simp] theorem Lp_ex (x : Exn) : Lp Q P (.ex x ρ) S = Q (.ex x ρ) S := rfl
end
theorem Ok_forM {α : Type} {enc : α → D} {f : D → Env → M Fl} {Q : Fl → Store → Prop} {X : Exn → Store → Prop} (P : List α → Env → Store → Prop) {l : List α} (step : ∀ done x rest ρ S, l = done ++ x :: rest → P done ρ S → Ok (f (enc x) ρ) S (Lp Q (P (done ++ [x]))) X)
    (fin : ∀ ρ S, P l ρ S → Q (.nx ρ) S) : ∀ (rest done : List α) (ρ : Env) (S : Store), l = done ++ rest → P done ρ S → Ok (forM f (rest.map enc) ρ) S Q X
  | [], done, ρ, S, e, h => by
    rw [List.append_nil] at e
    subst e
    exact ⟨fin ρ S h⟩
  | x :: rest, done, ρ, S, e, h => by
    have st := step done x rest ρ S e h
    have e2 : l = (done ++ [x]) ++ rest := by rw [e]; simp
    rw [List.map_cons]
    rw [Ok_eq] at st ⊢
    unfold OkM at st ⊢
    rw [forM_cons]
    cases r : f (enc x) ρ S with
    | bad => rw [r] at st; exact st
    | exc y S' => rw [r] at st; exact st
    | ok fl S' =>
      rw [r] at st
      cases fl with
      | nx ρ' => exact (Ok_forM P step fin rest (done ++ [x]) ρ' S' e2 st).out
      | ct ρ' => exact (Ok_forM P step fin rest (done ++ [x]) ρ' S' e2 st).out
      | bk ρ' => exact st
      | rt d => exact st
      | ex _ _ => exact st
theorem Ok_for {α : Type} {enc : α → D} {f : D → Env → M Fl} {Q : Fl → Store → Prop} {X : Exn → Store → Prop} (P : List α → Env → Store → Prop) {l : List α} {ρ : Env} {S : Store} (h0 : P [] ρ S) (step : ∀ done x rest ρ S, l = done ++ x :: rest → P done ρ S → Ok (f (enc x) ρ) S (Lp Q (P (done ++ [x]))) X)
    (fin : ∀ ρ S, P l ρ S → Q (.nx ρ) S) : Ok (forM f (l.map enc) ρ) S Q X := Ok_forM P step fin l [] ρ S rfl h0
theorem Ok_lcM' {α : Type} {enc : α → D} {f : D → M (Option D)} {Q : List D → Store → Prop} {X : Exn → Store → Prop} (P : List α → List D → Store → Prop) {l : List α} (hl : l.length < sizeLine) (step : ∀ done x rest acc S, l = done ++ x :: rest → P done acc S → Ok (f (enc x)) S (fun o S' => P (done ++ [x]) (acc ++ o.toList) S') X)
    (fin : ∀ acc S, P l acc S → Q acc S) : ∀ (rest done : List α) (acc : List D) (S : Store), l = done ++ rest → acc.length ≤ done.length → P done acc S → Ok (lcM f acc (rest.map enc)) S Q X
  | [], done, acc, S, e, _, h => by
    rw [List.append_nil] at e
    subst e
    exact ⟨fin acc S h⟩
  | x :: rest, done, acc, S, e, hlen, h => by
    show Ok (M.bnd (f (enc x)) fun o => if acc.length < sizeLine then lcM f (acc ++ o.toList) (rest.map enc) else M.bad) S Q X
    rw [Ok_bnd]
    refine (step done x rest acc S e h).imp fun o S' q => ?_
    have e1 : l.length = done.length + (rest.length + 1) := by rw [e]; simp
    rw [if_pos (by omega)]
    refine Ok_lcM' P hl step fin rest (done ++ [x]) _ S' (by rw [e]; simp) ?_ q
    rw [List.length_append, List.length_append, List.length_singleton]
    cases o <;> simp <;> omega
theorem Ok_lcM {α : Type} {enc : α → D} {f : D → M (Option D)} {Q : List D → Store → Prop} {X : Exn → Store → Prop} (P : List α → List D → Store → Prop) {l : List α} {S : Store} (hl : l.length < sizeLine) (h0 : P [] [] S) (step : ∀ done x rest acc S, l = done ++ x :: rest → P done acc S → Ok (f (enc x)) S (fun o S' => P (done ++ [x]) (acc ++ o.toList) S') X)
    (fin : ∀ acc S, P l acc S → Q acc S) : Ok (lcM f [] (l.map enc)) S Q X := Ok_lcM' P hl step fin l [] [] S rfl (Nat.le_refl _) h0
/-- of a list walked within another -/
theorem Ok_lcA {α : Type} {enc : α → D} {f : D → M (Option D)} {Q : List D → Store → Prop} {X : Exn → Store → Prop} {g : α → Option D} {S : Store} : ∀ {l : List α} {acc : List D} (hl : acc.length + l.length < sizeLine) (h : ∀ x ∈ l, Ok (f (enc x)) S (fun o S' => o = g x ∧ S' = S) X) (q : Q (acc ++ l.filterMap g) S), Ok (lcM f acc (l.map enc)) S Q X
  | [], acc, _, _, q => by
    rw [List.filterMap_nil, List.append_nil] at q
    exact ⟨q⟩
  | x :: r, acc, hl, h, q => by
    show Ok (M.bnd (f (enc x)) fun o => if acc.length < sizeLine then lcM f (acc ++ o.toList) (r.map enc) else M.bad) S Q X
    rw [Ok_bnd]
    rw [List.length_cons] at hl
    refine (h x List.mem_cons_self).imp fun o S' z => ?_
    obtain ⟨rfl, rfl⟩ := z
    rw [if_pos (by omega)]
    have e : acc ++ List.filterMap g (x :: r) = (acc ++ (g x).toList) ++ r.filterMap g := by
      rw [List.filterMap_cons]
      cases g x <;> simp
    refine Ok_lcA (by rw [List.length_append]; cases g x <;> simp <;> omega) (fun y hy => h y (List.mem_cons_of_mem _ hy)) (by rw [← e]; exact q)
/-- items made one by one without the store -/
theorem Ok_lcP {α : Type} {enc : α → D} {f : D → M (Option D)} {Q : List D → Store → Prop} {X : Exn → Store → Prop} {g : α → Option D} {l : List α} {S : Store} (hl : l.length < sizeLine) (h : ∀ x ∈ l, Ok (f (enc x)) S (fun o S' => o = g x ∧ S' = S) X) (q : Q (l.filterMap g) S) : Ok (lcM f [] (l.map enc)) S Q X :=
  Ok_lcA (by simpa using hl) h (by simpa using q)
theorem Ok_lcF' {α : Type} {enc : α → D} {f : D → List D → M (List D)} {Q : List D → Store → Prop} {X : Exn → Store → Prop} (P : List α → List D → Store → Prop) {l : List α} (step : ∀ done x rest acc S, l = done ++ x :: rest → P done acc S → Ok (f (enc x) acc) S (P (done ++ [x])) X)
    (fin : ∀ acc S, P l acc S → Q acc S) : ∀ (rest done : List α) (acc : List D) (S : Store), l = done ++ rest → P done acc S → Ok (lcF f acc (rest.map enc)) S Q X
  | [], done, acc, S, e, h => by
    rw [List.append_nil] at e
    subst e
    exact ⟨fin acc S h⟩
  | x :: rest, done, acc, S, e, h => by
    show Ok (M.bnd (f (enc x) acc) fun acc' => lcF f acc' (rest.map enc)) S Q X
    rw [Ok_bnd]
    exact (step done x rest acc S e h).imp fun acc' S' q => Ok_lcF' P step fin rest (done ++ [x]) acc' S' (by rw [e]; simp) q
theorem Ok_lcF {α : Type} {enc : α → D} {f : D → List D → M (List D)} {Q : List D → Store → Prop} {X : Exn → Store → Prop} (P : List α → List D → Store → Prop) {l : List α} {S : Store} (h0 : P [] [] S) (step : ∀ done x rest acc S, l = done ++ x :: rest → P done acc S → Ok (f (enc x) acc) S (P (done ++ [x])) X)
    (fin : ∀ acc S, P l acc S → Q acc S) : Ok (lcF f [] (l.map enc)) S Q X := Ok_lcF' P step fin l [] [] S rfl h0

theorem rngD_map (n : Nat) : rngD 0 n = (List.range n).map fun (k : Nat) => D.int k := by
  unfold rngD
  rw [show ((n : Int) - 0).toNat = n by omega]
  refine List.map_congr_left fun k _ => ?_
  rw [Int.zero_add]
theorem enumFrom_map {α : Type} (enc : α → D) : ∀ (l : List α) (k : Nat), enumFrom k (l.map enc) = (l.zipIdx k).map fun p => D.tup [.int p.2, enc p.1]
  | [], _ => rfl
  | x :: r, k => by
    show D.tup [.int k, enc x] :: enumFrom (k + 1) (r.map enc) = _
    rw [enumFrom_map enc r (k + 1), List.zipIdx_cons, List.map_cons]
theorem zipD_map {α β : Type} (e : α → D) (e' : β → D) : ∀ (l : List α) (m : List β), zipD (l.map e) (m.map e') = (l.zip m).map fun p => D.tup [e p.1, e' p.2]
  | [], _ => by simp [zipD]
  | _ :: _, [] => by simp [zipD]
  | x :: r, y :: s => by
    show D.tup [e x, e' y] :: zipD (r.map e) (s.map e') = _
    rw [zipD_map e e' r s, List.zip_cons_cons, List.map_cons]
theorem ints_map : ∀ w : List Int, D.ints? (w.map D.int) = some w
  | [] => rfl
  | i :: r => by show (D.ints? (r.map D.int)).map (i :: ·) = _; rw [ints_map r]; rfl
theorem bls_map : ∀ w : List Bool, D.bls? (w.map D.bl) = some w
  | [] => rfl
  | i :: r => by show (D.bls? (r.map D.bl)).map (i :: ·) = _; rw [bls_map r]; rfl
theorem words_map : ∀ ws : List (List Int), D.words? (ws.map wordTup) = some ws
  | [] => rfl
  | w :: r => by
    show (match D.ints? (w.map D.int), D.words? (r.map wordTup) with | some w, some ws => some (w :: ws) | _, _ => none) = _
    rw [ints_map, words_map r]
end WB
namespace WB
open PySem L2

@[simp] theorem cmp_lt (i j : Int) : cmpD .lt (.int i) (.int j) = some (decide (i < j)) := rfl
@[simp] theorem cmp_le (i j : Int) : cmpD .le (.int i) (.int j) = some (decide (i ≤ j)) := rfl
@[simp] theorem cmp_gt (i j : Int) : cmpD .gt (.int i) (.int j) = some (decide (j < i)) := rfl
@[simp] theorem cmp_ge (i j : Int) : cmpD .ge (.int i) (.int j) = some (decide (j ≤ i)) := rfl
@[simp] theorem eqD_int (i j : Int) : eqD (.int i) (.int j) = some (decide (i = j)) := by
  have h : ∀ k : Int, SeqAt.shaped (.int k) = true := fun k => by unfold SeqAt.shaped; simp [PyData.canLay0, PyData.depth]
  show (if SeqAt.shaped (.int i) && SeqAt.shaped (.int j) then some (PyData.eqv (.int i) (.int j)) else none) = _
  rw [h, h, Bool.and_true, if_pos rfl]
  simp [PyData.eqv]
  rfl
@[simp] theorem eqD_str (x y : Str) : eqD (.str x) (.str y) = some (decide (x = y)) := rfl
@[simp] theorem cmp_eq (a b : D) : cmpD .eq a b = eqD a b := by cases a <;> cases b <;> rfl
@[simp] theorem cmp_ne (a b : D) : cmpD .ne a b = (eqD a b).map (!·) := by cases a <;> cases b <;> rfl
theorem memD_L {a b : D} (h : ∀ ks vs, b ≠ .kd ks vs) : memD a b = memL a b := by
  cases b <;> first | rfl | exact absurd rfl (h _ _)
@[simp] theorem cmp_mem (a b : D) : cmpD .mem a b = memD a b := by cases a <;> cases b <;> rfl
@[simp] theorem cmp_nmem (a b : D) : cmpD .nmem a b = (memD a b).map (!·) := by cases a <;> cases b <;> rfl
@[simp] theorem cmp_isN (a : D) : cmpD .isN a .non = some a.isNon := by cases a <;> rfl
@[simp] theorem cmp_notN (a : D) : cmpD .notN a .non = some (!a.isNon) := by cases a <;> rfl
@[simp] theorem isNon_int (i : Int) : (D.int i).isNon = false := rfl
@[simp] theorem isNon_non : D.non.isNon = true := rfl
@[simp] theorem isNon_tup (xs : List D) : (D.tup xs).isNon = false := rfl
@[simp] theorem cmp_word (v w : List Int) : cmpD .lt (.tup (v.map D.int)) (.tup (w.map D.int)) = some (HT.lexLt v w) := by
  show (match D.ints? (v.map D.int), D.ints? (w.map D.int) with | some a, some b => some (HT.lexLt a b) | _, _ => none) = _
  rw [ints_map, ints_map]
@[simp] theorem bin_add (i j : Int) : binD .add (.int i) (.int j) = some (.int (i + j)) := rfl
@[simp] theorem bin_sub (i j : Int) : binD .sub (.int i) (.int j) = some (.int (i - j)) := rfl
theorem bin_mul {i j : Int} (h : (small i || small j) = true) : binD .mul (.int i) (.int j) = some (.int (i * j)) := if_pos h
theorem bin_fdiv {i j : Int} (h : 0 < j ∧ j < 1073741824) : binD .fdiv (.int i) (.int j) = some (.int (i / j)) := if_pos h
theorem bin_mod {i j : Int} (h : 0 < j) : binD .mod (.int i) (.int j) = some (.int (i % j)) := if_pos h
theorem bin_tup {xs ys : List D} (h : xs.length + ys.length ≤ sizeLine) : binD .add (.tup xs) (.tup ys) = some (.tup (xs ++ ys)) := if_pos h
theorem bin_lst {a b : D} {xs ys : List D} (ha : a.list? = some xs) (hb : b.list? = some ys) (h : xs.length + ys.length ≤ sizeLine) : binD .add a b = some (.own (xs ++ ys)) := by
  cases a <;> cases ha <;> cases b <;> cases hb <;> exact if_pos h
@[simp] theorem tru_bl (b : Bool) : truD (.bl b) = some b := rfl
@[simp] theorem tru_int (i : Int) : truD (.int i) = some (i != 0) := rfl
section
variable (S : Store) (Q : D → Store → Prop) (X : Exn → Store → Prop)
@[simp] theorem len_tup (xs : List D) : Ok (biM .len (.tup xs)) S Q X = Q (.int xs.length) S := Ok_eq _ _ _ _
@[simp] theorem len_lst (xs : List D) : Ok (biM .len (.lst xs)) S Q X = Q (.int xs.length) S := Ok_eq _ _ _ _
@[simp] theorem len_own (xs : List D) : Ok (biM .len (.own xs)) S Q X = Q (.int xs.length) S := Ok_eq _ _ _ _
@[simp] theorem len_bor (xs : List D) : Ok (biM .len (.bor xs)) S Q X = Q (.int xs.length) S := Ok_eq _ _ _ _
@[simp] theorem tuple_tup (xs : List D) : Ok (biM .tuple (.tup xs)) S Q X = Q (.tup xs) S := Ok_eq _ _ _ _
@[simp] theorem tuple_lst (xs : List D) : Ok (biM .tuple (.lst xs)) S Q X = Q (.tup xs) S := Ok_eq _ _ _ _
@[simp] theorem tuple_own (xs : List D) : Ok (biM .tuple (.own xs)) S Q X = Q (.tup xs) S := Ok_eq _ _ _ _
@[simp] theorem tuple_bor (xs : List D) : Ok (biM .tuple (.bor xs)) S Q X = Q (.tup xs) S := Ok_eq _ _ _ _
@[simp] theorem list_tup (xs : List D) : Ok (biM .list (.tup xs)) S Q X = Q (.own xs) S := Ok_eq _ _ _ _
@[simp] theorem list_lst (xs : List D) : Ok (biM .list (.lst xs)) S Q X = Q (.own xs) S := Ok_eq _ _ _ _
@[simp] theorem list_own (xs : List D) : Ok (biM .list (.own xs)) S Q X = Q (.own xs) S := Ok_eq _ _ _ _
@[simp] theorem list_bor (xs : List D) : Ok (biM .list (.bor xs)) S Q X = Q (.own xs) S := Ok_eq _ _ _ _
@[simp] theorem abs_int (i : Int) : Ok (biM .abs (.int i)) S Q X = Q (.int (if i < 0 then -i else i)) S := Ok_eq _ _ _ _
@[simp] theorem int_int (i : Int) : Ok (biM .int (.int i)) S Q X = Q (.int i) S := Ok_eq _ _ _ _
@[simp] theorem int_bl (b : Bool) : Ok (biM .int (.bl b)) S Q X = Q (.int (if b then 1 else 0)) S := Ok_eq _ _ _ _
theorem all_own (bs : List Bool) : Ok (biM .all (.own (bs.map D.bl))) S Q X = Q (.bl (bs.all id)) S := by
  have e : biM .all (.own (bs.map D.bl)) S = .ok (.bl (bs.all id)) S := by
    simp only [biM, D.list?, Option.bind_some, bls_map]
  rw [Ok_eq]
  unfold OkM
  rw [e]
theorem sum_own (ns : List Int) : Ok (biM .sum (.own (ns.map D.int))) S Q X = Q (.int ns.sum) S := by
  have e : biM .sum (.own (ns.map D.int)) S = .ok (.int ns.sum) S := by
    simp only [biM, D.list?, Option.bind_some, ints_map]
  rw [Ok_eq]
  unfold OkM
  rw [e]
end
@[simp] theorem atI0 {α : Type} (a : α) (l : List α) : L2.atI (a :: l) 0 = some a := atI_nat (j := 0) rfl
@[simp] theorem atI1 {α : Type} (a b : α) (l : List α) : L2.atI (a :: b :: l) 1 = some b := atI_nat (j := 1) rfl
@[simp] theorem atI2 {α : Type} (a b c : α) (l : List α) : L2.atI (a :: b :: c :: l) 2 = some c := atI_nat (j := 2) rfl
@[simp] theorem atI3 {α : Type} (a b c d : α) (l : List α) : L2.atI (a :: b :: c :: d :: l) 3 = some d := atI_nat (j := 3) rfl
theorem atI_map {α : Type} {e : α → D} {l : List α} {j : Nat} {x : α} (h : l[j]? = some x) : L2.atI (l.map e) (j : Int) = some (e x) := atI_nat (by rw [List.getElem?_map, h]; rfl)
@[simp] theorem sub_tup (xs : List D) (k : Int) : subD (.tup xs) (.int k) = L2.atI xs k := rfl
@[simp] theorem sub_lst (xs : List D) (k : Int) : subD (.lst xs) (.int k) = L2.atI xs k := rfl
@[simp] theorem sub_own (xs : List D) (k : Int) : subD (.own xs) (.int k) = L2.atI xs k := rfl
@[simp] theorem sub_bor (xs : List D) (k : Int) : subD (.bor xs) (.int k) = L2.atI xs k := rfl
@[simp] theorem sl_tup (xs : List D) (lo hi : Option Int) : slD (.tup xs) lo hi = some (.tup (cut xs lo hi)) := rfl
@[simp] theorem sl_lst (xs : List D) (lo hi : Option Int) : slD (.lst xs) lo hi = some (.own (cut xs lo hi)) := rfl
@[simp] theorem sl_own (xs : List D) (lo hi : Option Int) : slD (.own xs) lo hi = some (.own (cut xs lo hi)) := rfl
@[simp] theorem sl_bor (xs : List D) (lo hi : Option Int) : slD (.bor xs) lo hi = some (.own (cut xs lo hi)) := rfl
@[simp] theorem sl_scr (xs : List D) (lo hi : Option Int) : slD (.scr xs) lo hi = some (.own (cut xs lo hi)) := rfl
theorem cut_take {α : Type} (xs : List α) (k : Nat) : cut xs none (some (k : Int)) = xs.take k := by
  unfold cut
  rw [HT.sIx_none, HT.sIx_nat, List.drop_zero, Nat.sub_zero]
  by_cases h : k ≤ xs.length
  · rw [Nat.min_eq_left h]
  · rw [Nat.min_eq_right (by omega), List.take_of_length_le (Nat.le_refl _), List.take_of_length_le (by omega)]
theorem cut_drop {α : Type} (xs : List α) (k : Nat) : cut xs (some (k : Int)) none = xs.drop k := by
  unfold cut
  rw [HT.sIx_none, HT.sIx_nat]
  by_cases h : k ≤ xs.length
  · rw [Nat.min_eq_left h, List.take_of_length_le]
    simp
  · rw [Nat.min_eq_right (by omega), Nat.sub_self, List.take_zero, List.drop_of_length_le (by omega)]
@[simp] theorem seq_tup (xs : List D) : (D.tup xs).seq? = some xs := rfl
@[simp] theorem seq_lst (xs : List D) : (D.lst xs).seq? = some xs := rfl
@[simp] theorem seq_own (xs : List D) : (D.own xs).seq? = some xs := rfl
@[simp] theorem Ok_if {α : Type} {c : Prop} [Decidable c] (m m' : M α) (S : Store) (Q : α → Store → Prop) (X : Exn → Store → Prop) : Ok (if c then m else m') S Q X = if c then Ok m S Q X else Ok m' S Q X := by
  by_cases h : c <;> simp [h]

def ldV : Option (Option D) → M D
  | some (some (.own xs)) => M.ret (.bor xs)
  | some (some (.okd _ _)) => M.bad
  | some (some .lam) => M.bad
  | some (some d) => M.ret d
  | _ => M.bad
@[simp] theorem ld_eq (ρ : Env) (i : Nat) : ldE ρ i = ldV ρ[i]? := by
  unfold ldE ldV
  split <;> simp_all
def negV (x : D) : M D := match x with
  | .int i => M.ret (.int (-i))
  | _ => M.bad
def notV (x : D) : M D := match x with
  | .bl b => M.ret (.bl (!b))
  | _ => M.bad
def andV (m : M D) (x : D) : M D := match x with
  | .bl true => m
  | .bl false => M.ret (.bl false)
  | _ => M.bad
def orV (m : M D) (x : D) : M D := match x with
  | .bl false => m
  | .bl true => M.ret (.bl true)
  | _ => M.bad
def optV (x : D) : M (Option Int) := match x with
  | .int i => M.ret (some i)
  | _ => M.bad
def retV (d : D) : M Fl := match d with
  | .bor _ => M.bad
  | d => M.ret (.rt d)
def rngV1 (x : D) : M (List D) := match x with
  | .int j => if rng62 j then M.ret (rngD 0 j) else M.bad
  | _ => M.bad
def rngV2 (x y : D) : M (List D) := match x, y with
  | .int i, .int j => if rng62 i && rng62 j then M.ret (rngD i j) else M.bad
  | _, _ => M.bad
def rngV3 (x y z : D) : M (List D) := match x, y, z with
  | .int i, .int j, .int k => if k = -1 ∧ rng62 i = true ∧ rng62 j = true then M.ret (rngDn i j) else M.bad
  | _, _, _ => M.bad
def enumV (x : D) : M (List D) := match x.seq? with
  | some xs => M.ret (enumFrom 0 xs)
  | none => M.bad
def zipV (x y : D) : M (List D) := match x, y with
  | .tup xs, .tup ys => M.ret (zipD xs ys)
  | .lst xs, .lst ys => M.ret (zipD xs ys)
  | _, _ => M.bad
def unpV (ts : Ts) (ρ : Env) (d : D) : M Fl := match asgT (.tup ts) d ρ with
  | some ρ' => M.ret (.nx ρ')
  | none => M.bad
def appV (ρ : Env) (i : Nat) (xs : List D) (v : D) : M Fl := if xs.length < sizeLine then M.ret (.nx (ρ.set i (some (.own (xs ++ [v]))))) else M.bad
/-- the list that a slot alone has -/
def ownV (o : Option (Option D)) : Option (List D) := match o with
  | some (some (.own xs)) => some xs
  | _ => none
def withO (o : Option (List D)) (f : List D → M Fl) : M Fl := match o with
  | some xs => f xs
  | none => M.bad
@[simp] theorem withO_some (xs : List D) (f : List D → M Fl) : withO (some xs) f = f xs := rfl
@[simp] theorem ownV_own (xs : List D) : ownV (some (some (.own xs))) = some xs := rfl
theorem ownAt_eq (ρ : Env) (i : Nat) : ownAt ρ i = ownV ρ[i]? := rfl
def lcS (Φ : Tb) (vs : List Nat) (t : T) (c : B) (e : E) (ρ : Env) (x : D) : M (Option D) := M.calm (M.bnd (M.ofO (asgT t x (wipeE ρ vs))) fun ρ' => M.bnd (denB Φ c ρ') fun k => if k then M.bnd (M.bnd (den Φ e ρ') handM) fun y => M.ret (some y) else M.ret none)
def lcS2 (Φ : Tb) (own : List (Str × Nat)) (vs1 : List Nat) (t : T) (c : B) (t2 : T) (it2 : I) (c2 : B) (e : E) (ρ : Env) (x : D) (acc : List D) : M (List D) :=
  M.bnd (M.calm (M.ofO (asgT t x (wipeE ρ (own.map (·.2)))))) fun ρ2 => M.bnd (M.calm (denB Φ c ρ2)) fun k => if k then M.bnd (M.calm (denI Φ it2 ρ2)) fun ys => lcM (lcS Φ vs1 t2 c2 e ρ2) acc ys else M.ret acc
def forS (Φ : Tb) (t : T) (b : Ss) (x : D) (ρ : Env) : M Fl := match asgT t x ρ with
  | some ρ' => execs Φ b ρ'
  | none => M.bad
def forO (Φ : Tb) (b : Ss) : Option Env → M Fl
  | some ρ' => execs Φ b ρ'
  | none => M.bad
theorem forS_eq (Φ : Tb) (t : T) (b : Ss) (x : D) (ρ : Env) : forS Φ t b x ρ = forO Φ b (asgT t x ρ) := rfl
@[simp] theorem forO_some (Φ : Tb) (b : Ss) (ρ : Env) : forO Φ b (some ρ) = execs Φ b ρ := rfl
def unpO : Option Env → M Fl
  | some ρ' => M.ret (.nx ρ')
  | none => M.bad
@[simp] theorem unpV_eq (ts : Ts) (ρ : Env) (d : D) : unpV ts ρ d = unpO (asgT (.tup ts) d ρ) := rfl
@[simp] theorem unpO_some (ρ : Env) : unpO (some ρ) = M.ret (.nx ρ) := rfl
section
variable (Φ : Tb) (ρ : Env)
@[simp] theorem den_var (i : Nat) : den Φ (.var i) ρ = ldE ρ i := rfl
@[simp] theorem den_ci (i : Int) : den Φ (.ci i) ρ = M.ret (.int i) := rfl
@[simp] theorem den_cs (x : Str) : den Φ (.cs x) ρ = M.ret (.str x) := rfl
@[simp] theorem den_cb (b : Bool) : den Φ (.cb b) ρ = M.ret (.bl b) := rfl
@[simp] theorem den_cn : den Φ .cn ρ = M.ret .non := rfl
@[simp] theorem den_glob (j : Nat) : den Φ (.glob j) ρ = M.ofO (Φ.cst j) := rfl
@[simp] theorem den_bin (o : BOp) (a b : E) : den Φ (.bin o a b) ρ = M.bnd (den Φ a ρ) fun x => M.bnd (den Φ b ρ) fun y => M.ofO (binD o x y) := rfl
@[simp] theorem den_neg (a : E) : den Φ (.neg a) ρ = M.bnd (den Φ a ρ) negV := rfl
@[simp] theorem den_not (a : E) : den Φ (.not a) ρ = M.bnd (den Φ a ρ) notV := rfl
@[simp] theorem den_cmp (o : COp) (a b : E) : den Φ (.cmp o a b) ρ = M.bnd (den Φ a ρ) fun x => M.bnd (den Φ b ρ) fun y => M.ofO ((cmpD o x y).map .bl) := rfl
@[simp] theorem den_chain (o o' : COp) (a b c : E) : den Φ (.chain o o' a b c) ρ = M.bnd (den Φ a ρ) fun x => M.bnd (den Φ b ρ) fun y => M.bnd (M.ofO (cmpD o x y)) fun k => if k then M.bnd (den Φ c ρ) fun z => M.ofO ((cmpD o' y z).map .bl) else M.ret (.bl false) := rfl
@[simp] theorem den_and (a b : E) : den Φ (.and a b) ρ = M.bnd (den Φ a ρ) (andV (den Φ b ρ)) := rfl
@[simp] theorem den_or (a b : E) : den Φ (.or a b) ρ = M.bnd (den Φ a ρ) (orV (den Φ b ρ)) := rfl
@[simp] theorem den_ite (c : B) (a b : E) : den Φ (.ite c a b) ρ = M.bnd (denB Φ c ρ) fun k => if k then den Φ a ρ else den Φ b ρ := rfl
@[simp] theorem den_tup (es : Es) : den Φ (.tup es) ρ = M.bnd (dens Φ es ρ) fun xs => if xs.length ≤ sizeLine then M.ret (.tup xs) else M.bad := rfl
@[simp] theorem den_lst (es : Es) : den Φ (.lst es) ρ = M.bnd (dens Φ es ρ) fun xs => if xs.length ≤ sizeLine then M.ret (.own xs) else M.bad := rfl
@[simp] theorem den_sub (a i : E) : den Φ (.sub a i) ρ = M.bnd (den Φ a ρ) fun x => M.bnd (den Φ i ρ) fun y => M.ofO (subD x y) := rfl
@[simp] theorem den_sl (a : E) (lo hi : OE) : den Φ (.sl a lo hi) ρ = M.bnd (den Φ a ρ) fun x => M.bnd (denO Φ lo ρ) fun l => M.bnd (denO Φ hi ρ) fun h => M.ofO (slD x l h) := rfl
@[simp] theorem den_bi (b : Bi) (a : E) : den Φ (.bi b a) ρ = M.bnd (den Φ a ρ) (biM b) := rfl
@[simp] theorem den_isi (t : Ty) (a : E) : den Φ (.isi t a) ρ = M.bnd (den Φ a ρ) fun x => M.ofO ((isiD t x).map .bl) := rfl
@[simp] theorem den_call (f : Nat) (es : Es) : den Φ (.call f es) ρ = M.bnd (dens Φ es ρ) (Φ.fn f) := rfl
@[simp] theorem den_lc (own : List (Str × Nat)) (t : T) (it : I) (c : B) (e : E) : den Φ (.lc own t it c e) ρ = M.bnd (denI Φ it ρ) fun xs => M.bnd (lcM (lcS Φ (own.map (·.2)) t c e ρ) [] xs) fun ys => M.ret (.own ys) := rfl
@[simp] theorem den_dnew (ks : List Str) (es : Es) : den Φ (.dnew ks es) ρ = M.bnd (dens Φ es ρ) fun xs => dnewM ks xs := rfl
@[simp] theorem den_lnew (es : Es) : den Φ (.lnew es) ρ = M.bnd (dens Φ es ρ) fun xs => if xs.length ≤ sizeLine then newM (.lst xs) else M.bad := rfl
@[simp] theorem den_dget (a k : E) : den Φ (.dget a k) ρ = M.bnd (den Φ a ρ) fun x => M.bnd (den Φ k ρ) fun y => dgetM x y := rfl
@[simp] theorem den_lget (a k : E) : den Φ (.lget a k) ρ = M.bnd (den Φ a ρ) fun x => M.bnd (den Φ k ρ) fun y => lgetM x y := rfl
@[simp] theorem dens_nil : dens Φ .nil ρ = M.ret [] := rfl
@[simp] theorem dens_cons (e : E) (r : Es) : dens Φ (.cons e r) ρ = M.bnd (M.bnd (den Φ e ρ) handM) fun x => M.bnd (dens Φ r ρ) fun xs => M.ret (x :: xs) := rfl
@[simp] theorem denO_none : denO Φ .none ρ = M.ret none := rfl
@[simp] theorem denO_some (e : E) : denO Φ (.some e) ρ = M.bnd (den Φ e ρ) optV := rfl
@[simp] theorem denB_yes : denB Φ .yes ρ = M.ret true := rfl
@[simp] theorem denB_val (e : E) : denB Φ (.val e) ρ = M.bnd (den Φ e ρ) fun x => M.ofO (truD x) := rfl
@[simp] theorem denB_not (b : B) : denB Φ (.not b) ρ = M.bnd (denB Φ b ρ) fun k => M.ret (!k) := rfl
@[simp] theorem denB_and (a b : B) : denB Φ (.and a b) ρ = M.bnd (denB Φ a ρ) fun k => if k then denB Φ b ρ else M.ret false := rfl
@[simp] theorem denB_or (a b : B) : denB Φ (.or a b) ρ = M.bnd (denB Φ a ρ) fun k => if k then M.ret true else denB Φ b ρ := rfl
@[simp] theorem denI_seq (e : E) : denI Φ (.seq e) ρ = M.bnd (M.bnd (den Φ e ρ) handM) fun x => M.ofO x.seq? := rfl
@[simp] theorem denI_rng1 (a : E) : denI Φ (.rng1 a) ρ = M.bnd (den Φ a ρ) rngV1 := rfl
@[simp] theorem denI_rng2 (a b : E) : denI Φ (.rng2 a b) ρ = M.bnd (den Φ a ρ) fun x => M.bnd (den Φ b ρ) fun y => rngV2 x y := rfl
@[simp] theorem denI_rng3 (a b c : E) : denI Φ (.rng3 a b c) ρ = M.bnd (den Φ a ρ) fun x => M.bnd (den Φ b ρ) fun y => M.bnd (den Φ c ρ) fun z => rngV3 x y z := rfl
@[simp] theorem denI_enum (e : E) : denI Φ (.enum e) ρ = M.bnd (M.bnd (den Φ e ρ) handM) enumV := rfl
@[simp] theorem denI_zip (a b : E) : denI Φ (.zip a b) ρ = M.bnd (M.bnd (den Φ a ρ) handM) fun x => M.bnd (M.bnd (den Φ b ρ) handM) fun y => zipV x y := rfl
@[simp] theorem exec_pass : exec Φ .pass ρ = M.ret (.nx ρ) := rfl
@[simp] theorem exec_brk : exec Φ .brk ρ = M.ret (.bk ρ) := rfl
@[simp] theorem exec_cnt : exec Φ .cnt ρ = M.ret (.ct ρ) := rfl
@[simp] theorem exec_asg (i : Nat) (e : E) : exec Φ (.asg i e) ρ = tryM (den Φ e ρ) ρ (setI ρ i) := rfl
@[simp] theorem exec_lc (i : Nat) (own : List (Str × Nat)) (t : T) (it : I) (c : B) (e : E) : exec Φ (.asgLc i own t it c e) ρ = tryM (den Φ (.lc own t it c e) ρ) ρ (setI ρ i) := rfl
@[simp] theorem exec_lc2 (i : Nat) (own : List (Str × Nat)) (vs1 : List Nat) (t : T) (it : I) (c : B) (t2 : T) (it2 : I) (c2 : B) (e : E) : exec Φ (.asgLc2 i own vs1 t it c t2 it2 c2 e) ρ = tryM (den Φ (.lc2 own vs1 t it c t2 it2 c2 e) ρ) ρ (setI ρ i) := rfl
@[simp] theorem exec_unp (ts : Ts) (e : E) : exec Φ (.unp ts e) ρ = tryM (den Φ e ρ) ρ (unpV ts ρ) := rfl
@[simp] theorem exec_par (i j : Nat) (a b : E) : exec Φ (.par i j a b) ρ = tryM (den Φ a ρ) ρ fun x => tryM (den Φ b ρ) ρ fun y => seqM (setI ρ i x) fun ρ' => setI ρ' j y := rfl
@[simp] theorem exec_aug (i : Nat) (o : BOp) (e : E) : exec Φ (.aug i o e) ρ = tryM (ldE ρ i) ρ fun x => tryM (den Φ e ρ) ρ fun y => tryM (M.ofO (augD o x y)) ρ (setI ρ i) := rfl
@[simp] theorem exec_setK (o k e : E) : exec Φ (.setK o k e) ρ = tryM (M.bnd (den Φ e ρ) handM) ρ fun v => tryM (den Φ o ρ) ρ fun x => tryM (den Φ k ρ) ρ fun y => tryM (putM x y v) ρ fun _ => M.ret (.nx ρ) := rfl
@[simp] theorem exec_app (i : Nat) (e : E) : exec Φ (.app i e) ρ = withO (ownV ρ[i]?) fun xs => tryM (M.bnd (den Φ e ρ) handM) ρ (appV ρ i xs) := rfl
@[simp] theorem exec_rev (i : Nat) : exec Φ (.rev i) ρ = withO (ownV ρ[i]?) fun xs => M.ret (.nx (ρ.set i (some (.own xs.reverse)))) := rfl
@[simp] theorem exec_expr (e : E) : exec Φ (.expr e) ρ = tryM (den Φ e ρ) ρ fun _ => M.ret (.nx ρ) := rfl
@[simp] theorem exec_ret (e : E) : exec Φ (.ret e) ρ = tryM (den Φ e ρ) ρ retV := rfl
@[simp] theorem exec_retO (i : Nat) : exec Φ (.retO i) ρ = withO (ownV ρ[i]?) fun xs => M.ret (.rt (.own xs)) := rfl
@[simp] theorem exec_retN : exec Φ .retN ρ = M.ret (.rt .non) := rfl
@[simp] theorem exec_iff (c : B) (a b : Ss) : exec Φ (.iff c a b) ρ = tryM (denB Φ c ρ) ρ fun k => if k then execs Φ a ρ else execs Φ b ρ := rfl
@[simp] theorem exec_for (t : T) (it : I) (b : Ss) : exec Φ (.for t it b) ρ = tryM (denI Φ it ρ) ρ fun xs => forM (forS Φ t b) xs ρ := rfl
@[simp] theorem exec_whl (n : Nat) (c : B) (b : Ss) : exec Φ (.whl n c b) ρ = whlM (denB Φ c) (execs Φ b) n ρ := rfl
@[simp] theorem exec_raise0 (x : Str) : exec Φ (.raise0 x) ρ = M.ret (.ex ⟨x, none⟩ ρ) := rfl
@[simp] theorem exec_raise1 (x f : Str) (e : E) : exec Φ (.raise1 x f e) ρ = tryM (M.bnd (den Φ e ρ) handM) ρ fun d => M.ret (.ex ⟨x, some (f, d)⟩ ρ) := rfl
@[simp] theorem exec_tryS (b : Ss) (hs : Hs) : exec Φ (.tryS b hs) ρ = catchM (execs Φ b ρ) (handleM Φ hs) := rfl
@[simp] theorem handle_nil (x : Exn) : handleM Φ .nil x ρ = M.ret (.ex x ρ) := rfl
@[simp] theorem handle_cons (t : Str) (i : Option Nat) (su : S) (yes no : List Str) (r : Hs) (x : Exn) : handleM Φ (.cons t i su yes no r) x ρ = if x.cls ∈ yes then clearM i (exec Φ su (bindX x ρ i)) else if x.cls ∈ no then handleM Φ r x ρ else M.bad := rfl
@[simp] theorem bindX_none (x : Exn) : bindX x ρ none = ρ := rfl
@[simp] theorem bindX_some (x : Exn) (i : Nat) : bindX x ρ (some i) = ρ.set i (some x.val) := rfl
@[simp] theorem wipe1_none : wipe1 ρ none = ρ := rfl
@[simp] theorem wipe1_some (i : Nat) : wipe1 ρ (some i) = ρ.set i none := rfl
@[simp] theorem den_isx (a : E) (t : Str) (yes no : List Str) : den Φ (.isx a t yes no) ρ = M.bnd (den Φ a ρ) (isxM yes no) := rfl
@[simp] theorem den_fld (a : E) (f : Str) (ok : List Str) : den Φ (.fld a f ok) ρ = M.bnd (den Φ a ρ) (fldM f ok) := rfl
@[simp] theorem den_lrng (a : E) : den Φ (.lrng a) ρ = M.bnd (den Φ a ρ) (rngM .own) := rfl
@[simp] theorem den_trng (a : E) : den Φ (.trng a) ρ = M.bnd (den Φ a ρ) (rngM .tup) := rfl
@[simp] theorem exec_never : exec Φ .never ρ = M.bad := rfl
@[simp] theorem den_dlit (kvs : List (Int × Int)) : den Φ (.dlit kvs) ρ = if decide ((kvs.map (·.1)).Nodup ∧ kvs.length ≤ 15) then M.ret (.dct kvs) else M.bad := rfl
@[simp] theorem den_revT (a : E) : den Φ (.revT a) ρ = M.bnd (den Φ a ρ) revM := rfl
@[simp] theorem den_isxT (a : E) (ts no : List Str) : den Φ (.isxT a ts no) ρ = M.bnd (den Φ a ρ) (isxM [] no) := rfl
@[simp] theorem den_isiT (a : E) : den Φ (.isiT a) ρ = M.bnd (den Φ a ρ) fun x => M.ofO ((isiD .tupleList x).map .bl) := rfl
@[simp] theorem exec_frz (i : Nat) : exec Φ (.frz i) ρ = withO (ownV ρ[i]?) fun xs => M.ret (.nx (ρ.set i (some (.lst xs)))) := rfl
@[simp] theorem asg_name (i : Nat) (d : D) : asgT (.name i) d ρ = if i < ρ.length then some (ρ.set i (some d)) else none := rfl
@[simp] theorem asg_tup (ts : Ts) (xs : List D) : asgT (.tup ts) (.tup xs) ρ = asgTs ts xs ρ := rfl
@[simp] theorem asgs_nil : asgTs .nil [] ρ = some ρ := rfl
@[simp] theorem asgs_cons (t : T) (r : Ts) (d : D) (xs : List D) : asgTs (.cons t r) (d :: xs) ρ = (asgT t d ρ).bind (asgTs r xs) := rfl
@[simp] theorem wipe_nil : wipeE ρ [] = ρ := rfl
@[simp] theorem wipe_cons (v : Nat) (vs : List Nat) : wipeE ρ (v :: vs) = (wipeE ρ vs).set v none := rfl
end
@[simp] theorem ldV_non : ldV (some (some .non)) = M.ret .non := rfl
@[simp] theorem hand_non : handM .non = M.ret .non := rfl
@[simp] theorem retV_non : retV .non = M.ret (.rt .non) := rfl
@[simp] theorem setI_non (ρ : Env) (j : Nat) : setI ρ j .non = if j < ρ.length then M.ret (.nx (ρ.set j (some .non))) else M.bad := rfl
@[simp] theorem ldV_bl (b : Bool) : ldV (some (some (.bl b))) = M.ret (.bl b) := rfl
@[simp] theorem hand_bl (b : Bool) : handM (.bl b) = M.ret (.bl b) := rfl
@[simp] theorem retV_bl (b : Bool) : retV (.bl b) = M.ret (.rt (.bl b)) := rfl
@[simp] theorem setI_bl (ρ : Env) (j : Nat) (b : Bool) : setI ρ j (.bl b) = if j < ρ.length then M.ret (.nx (ρ.set j (some (.bl b)))) else M.bad := rfl
@[simp] theorem ldV_int (i : Int) : ldV (some (some (.int i))) = M.ret (.int i) := rfl
@[simp] theorem hand_int (i : Int) : handM (.int i) = M.ret (.int i) := rfl
@[simp] theorem retV_int (i : Int) : retV (.int i) = M.ret (.rt (.int i)) := rfl
@[simp] theorem setI_int (ρ : Env) (j : Nat) (i : Int) : setI ρ j (.int i) = if j < ρ.length then M.ret (.nx (ρ.set j (some (.int i)))) else M.bad := rfl
@[simp] theorem ldV_str (x : Str) : ldV (some (some (.str x))) = M.ret (.str x) := rfl
@[simp] theorem hand_str (x : Str) : handM (.str x) = M.ret (.str x) := rfl
@[simp] theorem retV_str (x : Str) : retV (.str x) = M.ret (.rt (.str x)) := rfl
@[simp] theorem setI_str (ρ : Env) (j : Nat) (x : Str) : setI ρ j (.str x) = if j < ρ.length then M.ret (.nx (ρ.set j (some (.str x)))) else M.bad := rfl
@[simp] theorem ldV_tup (xs : List D) : ldV (some (some (.tup xs))) = M.ret (.tup xs) := rfl
@[simp] theorem hand_tup (xs : List D) : handM (.tup xs) = M.ret (.tup xs) := rfl
@[simp] theorem retV_tup (xs : List D) : retV (.tup xs) = M.ret (.rt (.tup xs)) := rfl
@[simp] theorem setI_tup (ρ : Env) (j : Nat) (xs : List D) : setI ρ j (.tup xs) = if j < ρ.length then M.ret (.nx (ρ.set j (some (.tup xs)))) else M.bad := rfl
@[simp] theorem ldV_lst (xs : List D) : ldV (some (some (.lst xs))) = M.ret (.lst xs) := rfl
@[simp] theorem hand_lst (xs : List D) : handM (.lst xs) = M.ret (.lst xs) := rfl
@[simp] theorem retV_lst (xs : List D) : retV (.lst xs) = M.ret (.rt (.lst xs)) := rfl
@[simp] theorem setI_lst (ρ : Env) (j : Nat) (xs : List D) : setI ρ j (.lst xs) = if j < ρ.length then M.ret (.nx (ρ.set j (some (.lst xs)))) else M.bad := rfl
@[simp] theorem ldV_scr (xs : List D) : ldV (some (some (.scr xs))) = M.ret (.scr xs) := rfl
@[simp] theorem hand_scr (xs : List D) : handM (.scr xs) = M.ret (.scr xs) := rfl
@[simp] theorem retV_scr (xs : List D) : retV (.scr xs) = M.ret (.rt (.scr xs)) := rfl
@[simp] theorem setI_scr (ρ : Env) (j : Nat) (xs : List D) : setI ρ j (.scr xs) = if j < ρ.length then M.ret (.nx (ρ.set j (some (.scr xs)))) else M.bad := rfl
@[simp] theorem ldV_ref (n : Nat) : ldV (some (some (.ref n))) = M.ret (.ref n) := rfl
@[simp] theorem hand_ref (n : Nat) : handM (.ref n) = M.ret (.ref n) := rfl
@[simp] theorem retV_ref (n : Nat) : retV (.ref n) = M.ret (.rt (.ref n)) := rfl
@[simp] theorem setI_ref (ρ : Env) (j : Nat) (n : Nat) : setI ρ j (.ref n) = if j < ρ.length then M.ret (.nx (ρ.set j (some (.ref n)))) else M.bad := rfl
@[simp] theorem ldV_own (xs : List D) : ldV (some (some (.own xs))) = M.ret (.bor xs) := rfl
@[simp] theorem hand_own (xs : List D) : handM (.own xs) = M.ret (.lst xs) := rfl
@[simp] theorem retV_own (xs : List D) : retV (.own xs) = M.ret (.rt (.own xs)) := rfl
@[simp] theorem setI_own (ρ : Env) (j : Nat) (xs : List D) : setI ρ j (.own xs) = if j < ρ.length then M.ret (.nx (ρ.set j (some (.own xs)))) else M.bad := rfl
@[simp] theorem val_none (c : Str) : (⟨c, none⟩ : Exn).val = .exn0 c := rfl
@[simp] theorem val_some (c f : Str) (d : D) : (⟨c, some (f, d)⟩ : Exn).val = .exn1 c f d := rfl
@[simp] theorem ldV_exn0 (x : Str) : ldV (some (some (.exn0 x))) = M.ret (.exn0 x) := rfl
@[simp] theorem ldV_exn1 (x f : Str) (d : D) : ldV (some (some (.exn1 x f d))) = M.ret (.exn1 x f d) := rfl
@[simp] theorem hand_exn0 (x : Str) : handM (.exn0 x) = M.ret (.exn0 x) := rfl
@[simp] theorem hand_exn1 (x f : Str) (d : D) : handM (.exn1 x f d) = M.ret (.exn1 x f d) := rfl
@[simp] theorem setI_exn0 (ρ : Env) (j : Nat) (x : Str) : setI ρ j (.exn0 x) = if j < ρ.length then M.ret (.nx (ρ.set j (some (.exn0 x)))) else M.bad := rfl
@[simp] theorem setI_exn1 (ρ : Env) (j : Nat) (x f : Str) (d : D) : setI ρ j (.exn1 x f d) = if j < ρ.length then M.ret (.nx (ρ.set j (some (.exn1 x f d)))) else M.bad := rfl
@[simp] theorem isx_exn0 (yes no : List Str) (c : Str) : isxM yes no (.exn0 c) = if c ∈ yes then M.ret (.bl true) else if c ∈ no then M.ret (.bl false) else M.bad := rfl
@[simp] theorem isx_exn1 (yes no : List Str) (c f : Str) (d : D) : isxM yes no (.exn1 c f d) = if c ∈ yes then M.ret (.bl true) else if c ∈ no then M.ret (.bl false) else M.bad := rfl
@[simp] theorem fld_exn1 (ok : List Str) (c g f : Str) (d : D) : fldM f ok (.exn1 c g d) = if g = f ∧ c ∈ ok then M.ret d else M.bad := rfl
@[simp] theorem rev_tup (xs : List D) : revM (.tup xs) = M.ret (.tup xs.reverse) := rfl
@[simp] theorem hand_dct (kvs : List (Int × Int)) : handM (.dct kvs) = M.ret (.dct kvs) := rfl
@[simp] theorem str_non {S : Store} {Q : D → Store → Prop} {X : Exn → Store → Prop} : Ok (biM .str .non) S Q X = Q (.str (Str.ofString "None")) S := Ok_eq _ _ _ _
theorem str_int {S : Store} {Q : D → Store → Prop} {X : Exn → Store → Prop} {i : Int} (h : i.natAbs.log2 < 1920) : Ok (biM .str (.int i)) S Q X = Q (.str (Str.ofString (toString i))) S := by
  have e : biM .str (.int i) S = .ok (.str (Str.ofString (toString i))) S := if_pos h
  rw [Ok_eq]
  unfold OkM
  rw [e]
@[simp] theorem negV_int (i : Int) : negV (.int i) = M.ret (.int (-i)) := rfl
@[simp] theorem notV_bl (b : Bool) : notV (.bl b) = M.ret (.bl (!b)) := rfl
@[simp] theorem andV_true (m : M D) : andV m (.bl true) = m := rfl
@[simp] theorem andV_false (m : M D) : andV m (.bl false) = M.ret (.bl false) := rfl
theorem andV_bl (m : M D) (b : Bool) : andV m (.bl b) = if b then m else M.ret (.bl false) := by cases b <;> rfl
@[simp] theorem orV_true (m : M D) : orV m (.bl true) = M.ret (.bl true) := rfl
@[simp] theorem orV_false (m : M D) : orV m (.bl false) = m := rfl
theorem orV_bl (m : M D) (b : Bool) : orV m (.bl b) = if b then M.ret (.bl true) else m := by cases b <;> rfl
@[simp] theorem optV_int (i : Int) : optV (.int i) = M.ret (some i) := rfl
theorem rngV1_nat (n : Nat) (h : n < 2 ^ 62) : rngV1 (.int n) = M.ret ((List.range n).map fun (k : Nat) => D.int k) := by
  show (if rng62 (n : Int) then M.ret (rngD 0 n) else M.bad) = _
  rw [if_pos (by unfold rng62; exact decide_eq_true (by omega)), rngD_map]
theorem rngV1_int (j : Int) (h : -(2 ^ 62) ≤ j ∧ j < 2 ^ 62) : rngV1 (.int j) = M.ret ((List.range j.toNat).map fun (k : Nat) => D.int k) := by
  show (if rng62 j then M.ret (rngD 0 j) else M.bad) = _
  rw [if_pos (by unfold rng62; exact decide_eq_true h)]
  unfold rngD
  rw [Int.sub_zero]
  congr 1
  refine List.map_congr_left fun k _ => ?_
  rw [Int.zero_add]
@[simp] theorem enumV_tup (xs : List D) : enumV (.tup xs) = M.ret (enumFrom 0 xs) := rfl
@[simp] theorem enumV_lst (xs : List D) : enumV (.lst xs) = M.ret (enumFrom 0 xs) := rfl
@[simp] theorem zipV_tup (xs ys : List D) : zipV (.tup xs) (.tup ys) = M.ret (zipD xs ys) := rfl
@[simp] theorem zipV_lst (xs ys : List D) : zipV (.lst xs) (.lst ys) = M.ret (zipD xs ys) := rfl
@[simp] theorem isi_int_non : isiD .int .non = some false := rfl
@[simp] theorem isi_int_bl (b : Bool) : isiD .int (.bl b) = some true := rfl
@[simp] theorem isi_int_int (i : Int) : isiD .int (.int i) = some true := rfl
@[simp] theorem isi_int_str (x : Str) : isiD .int (.str x) = some false := rfl
@[simp] theorem isi_int_tup (xs : List D) : isiD .int (.tup xs) = some false := rfl
@[simp] theorem isi_int_lst (xs : List D) : isiD .int (.lst xs) = some false := rfl
@[simp] theorem isi_int_own (xs : List D) : isiD .int (.own xs) = some false := rfl
@[simp] theorem isi_int_bor (xs : List D) : isiD .int (.bor xs) = some false := rfl
@[simp] theorem isi_bool_non : isiD .bool .non = some false := rfl
@[simp] theorem isi_bool_bl (b : Bool) : isiD .bool (.bl b) = some true := rfl
@[simp] theorem isi_bool_int (i : Int) : isiD .bool (.int i) = some false := rfl
@[simp] theorem isi_bool_str (x : Str) : isiD .bool (.str x) = some false := rfl
@[simp] theorem isi_bool_tup (xs : List D) : isiD .bool (.tup xs) = some false := rfl
@[simp] theorem isi_bool_lst (xs : List D) : isiD .bool (.lst xs) = some false := rfl
@[simp] theorem isi_bool_own (xs : List D) : isiD .bool (.own xs) = some false := rfl
@[simp] theorem isi_bool_bor (xs : List D) : isiD .bool (.bor xs) = some false := rfl
@[simp] theorem isi_str_non : isiD .str .non = some false := rfl
@[simp] theorem isi_str_bl (b : Bool) : isiD .str (.bl b) = some false := rfl
@[simp] theorem isi_str_int (i : Int) : isiD .str (.int i) = some false := rfl
@[simp] theorem isi_str_str (x : Str) : isiD .str (.str x) = some true := rfl
@[simp] theorem isi_str_tup (xs : List D) : isiD .str (.tup xs) = some false := rfl
@[simp] theorem isi_str_lst (xs : List D) : isiD .str (.lst xs) = some false := rfl
@[simp] theorem isi_str_own (xs : List D) : isiD .str (.own xs) = some false := rfl
@[simp] theorem isi_str_bor (xs : List D) : isiD .str (.bor xs) = some false := rfl
@[simp] theorem isi_tuple_non : isiD .tuple .non = some false := rfl
@[simp] theorem isi_tuple_bl (b : Bool) : isiD .tuple (.bl b) = some false := rfl
@[simp] theorem isi_tuple_int (i : Int) : isiD .tuple (.int i) = some false := rfl
@[simp] theorem isi_tuple_str (x : Str) : isiD .tuple (.str x) = some false := rfl
@[simp] theorem isi_tuple_tup (xs : List D) : isiD .tuple (.tup xs) = some true := rfl
@[simp] theorem isi_tuple_lst (xs : List D) : isiD .tuple (.lst xs) = some false := rfl
@[simp] theorem isi_tuple_own (xs : List D) : isiD .tuple (.own xs) = some false := rfl
@[simp] theorem isi_tuple_bor (xs : List D) : isiD .tuple (.bor xs) = some false := rfl
@[simp] theorem isi_list_non : isiD .list .non = some false := rfl
@[simp] theorem isi_list_bl (b : Bool) : isiD .list (.bl b) = some false := rfl
@[simp] theorem isi_list_int (i : Int) : isiD .list (.int i) = some false := rfl
@[simp] theorem isi_list_str (x : Str) : isiD .list (.str x) = some false := rfl
@[simp] theorem isi_list_tup (xs : List D) : isiD .list (.tup xs) = some false := rfl
@[simp] theorem isi_list_lst (xs : List D) : isiD .list (.lst xs) = some true := rfl
@[simp] theorem isi_list_own (xs : List D) : isiD .list (.own xs) = some true := rfl
@[simp] theorem isi_list_bor (xs : List D) : isiD .list (.bor xs) = some true := rfl
@[simp] theorem isi_dict_non : isiD .dict .non = some false := rfl
@[simp] theorem isi_dict_bl (b : Bool) : isiD .dict (.bl b) = some false := rfl
@[simp] theorem isi_dict_int (i : Int) : isiD .dict (.int i) = some false := rfl
@[simp] theorem isi_dict_str (x : Str) : isiD .dict (.str x) = some false := rfl
@[simp] theorem isi_dict_tup (xs : List D) : isiD .dict (.tup xs) = some false := rfl
@[simp] theorem isi_dict_lst (xs : List D) : isiD .dict (.lst xs) = some false := rfl
@[simp] theorem isi_dict_own (xs : List D) : isiD .dict (.own xs) = some false := rfl
@[simp] theorem isi_dict_bor (xs : List D) : isiD .dict (.bor xs) = some false := rfl
@[simp] theorem den_lc2 (Φ : Tb) (ρ : Env) (own : List (Str × Nat)) (vs1 : List Nat) (t : T) (it : I) (c : B) (t2 : T) (it2 : I) (c2 : B) (e : E) : den Φ (.lc2 own vs1 t it c t2 it2 c2 e) ρ = M.bnd (denI Φ it ρ) fun xs => M.bnd (lcF (lcS2 Φ own vs1 t c t2 it2 c2 e ρ) [] xs) fun ys => M.ret (.own ys) := rfl
/-- every item makes one -/
theorem Ok_lcMap {α : Type} {enc : α → D} {f : D → M (Option D)} {Q : List D → Store → Prop} {X : Exn → Store → Prop} {g : α → D} {l : List α} {S : Store} (hl : l.length < sizeLine) (h : ∀ x ∈ l, Ok (f (enc x)) S (fun o S' => o = some (g x) ∧ S' = S) noX) (q : Q (l.map g) S) : Ok (lcM f [] (l.map enc)) S Q X :=
  Ok_lcP (g := fun x => some (g x)) hl (fun x hx => (h x hx).any) (by rw [show l.filterMap (fun x => some (g x)) = l.map g from by rw [List.filterMap_eq_map']] ; exact q)
theorem Ok_lcAll {α : Type} {enc : α → D} {f : D → M (Option D)} {Q : D → Store → Prop} {X X' : Exn → Store → Prop} {p : α → Bool} {l : List α} {S : Store} (hl : l.length < sizeLine) (h : ∀ x ∈ l, Ok (f (enc x)) S (fun o S' => o = some (.bl (p x)) ∧ S' = S) noX) (q : Q (.bl (l.all p)) S) : Ok (lcM f [] (l.map enc)) S (fun a S' => Ok (biM .all (.own a)) S' Q X') X := by
  refine Ok_lcMap (g := fun x => .bl (p x)) hl h ?_
  rw [show l.map (fun x => D.bl (p x)) = (l.map p).map D.bl from by rw [List.map_map]; rfl, all_own, List.all_map]
  exact q
end WB
namespace WB
open PySem L2

@[simp] theorem ldV_word (w : List Int) : ldV (some (some (wordTup w))) = M.ret (wordTup w) := rfl
@[simp] theorem hand_word (w : List Int) : handM (wordTup w) = M.ret (wordTup w) := rfl
@[simp] theorem retV_word (w : List Int) : retV (wordTup w) = M.ret (.rt (wordTup w)) := rfl
@[simp] theorem setI_word (ρ : Env) (j : Nat) (w : List Int) : setI ρ j (wordTup w) = if j < ρ.length then M.ret (.nx (ρ.set j (some (wordTup w)))) else M.bad := rfl
structure Gap where
  h : Int
  t : Int
  p : Int
  ws : List (List Int)
structure Bolt where
  n : Int
  gs : List Gap
abbrev gapD (g : Gap) : D := .tup [.int g.h, .int g.t, .int g.p, .tup (g.ws.map wordTup)]
abbrev boltD (b : Bolt) : D := .tup [.int b.n, .tup (b.gs.map gapD)]
abbrev lockD (L : List Bolt) : D := .tup (L.map boltD)
def inB (p : Int × Bolt) : Bool := decide (0 ≤ p.1) && decide (p.1 ≤ p.2.n - 1)
def wordB (L : List Bolt) (w : List Int) : Bool := decide (w.length = L.length) && (w.zip L).all inB
/-- each below the next -/
def riseB : List (List Int) → Bool
  | a :: b :: r => HT.lexLt a b && riseB (b :: r)
  | _ => true
theorem riseB_at : ∀ l : List (List Int), riseB l = (List.range (l.length - 1)).all fun k => match l[k]?, l[k + 1]? with | some a, some b => HT.lexLt a b | _, _ => false
  | [] => rfl
  | [_] => rfl
  | a :: b :: r => by
    have ih := riseB_at (b :: r)
    show (HT.lexLt a b && riseB (b :: r)) = _
    rw [ih]
    simp only [List.length_cons, Nat.add_sub_cancel, List.range_succ_eq_map, List.all_cons, List.all_map]
    rfl
def gapB (L : List Bolt) (n : Int) (g : Gap) : Bool := (decide (0 ≤ g.h) && decide (g.h ≤ n - 1)) && ((decide (0 ≤ g.t) && decide (g.t ≤ n - 1)) && !decide (g.h = g.t)) && (decide (1 ≤ g.p) && decide (g.p ≤ 1000000)) && (g.ws.all (wordB L) && riseB g.ws)
def boltB (L : List Bolt) (b : Bolt) : Bool := (decide (2 ≤ b.n) && decide (b.n ≤ 4)) && decide (b.gs.length ≤ 12) && b.gs.all (gapB L b.n) && (riseB (b.gs.map fun g => [g.h, g.t]) && decide ((b.gs.map fun g => g.ws.length).sum ≤ 8))
def waysF (b : Bolt) : List (List Int) := b.gs.flatMap (·.ws)
theorem rngV3_down (n : Nat) (h : n < 2 ^ 62) : rngV3 (.int ((n : Int) - 1)) (.int (-1)) (.int (-1)) = M.ret ((List.range n).map fun (j : Nat) => D.int (((n - 1 - j : Nat)) : Int)) := by
  show (if (-1 : Int) = -1 ∧ rng62 ((n : Int) - 1) = true ∧ rng62 (-1) = true then M.ret (rngDn ((n : Int) - 1) (-1)) else M.bad) = _
  rw [if_pos ⟨rfl, by unfold rng62; exact decide_eq_true (by omega), by unfold rng62; exact decide_eq_true (by omega)⟩]
  unfold rngDn
  rw [show ((n : Int) - 1 - -1).toNat = n by omega]
  congr 1
  refine List.map_congr_left fun j hj => ?_
  have hj : j < n := by simpa using hj
  congr 1
  omega
theorem range_at {n x : Nat} {done rest : List Nat} (h : List.range n = done ++ x :: rest) : x = done.length ∧ done.length < n := by
  have h1 : (List.range n)[done.length]? = some x := by rw [h]; simp
  have h2 : done.length < n := by
    have := (List.getElem?_eq_some_iff.mp h1).1
    simpa using this
  rw [List.getElem?_range h2] at h1
  exact ⟨(Option.some.inj h1).symm, h2⟩
theorem wordB_len {L : List Bolt} {w : List Int} (h : wordB L w = true) : w.length = L.length := by
  unfold wordB at h
  simp at h
  exact h.1
theorem wordB_dig {L : List Bolt} {w : List Int} (h : wordB L w = true) (hn : ∀ b ∈ L, b.n ≤ 4) : ∀ i ∈ w, 0 ≤ i ∧ i < 4 := by
  intro i hi
  have hl := wordB_len h
  unfold wordB at h
  rw [Bool.and_eq_true, List.all_eq_true] at h
  obtain ⟨j, hj, e⟩ := List.mem_iff_getElem.mp hi
  have hj2 : j < L.length := by omega
  have hm : (w[j], L[j]) ∈ w.zip L := by
    rw [List.mem_iff_getElem]
    exact ⟨j, by simp; omega, by simp⟩
  have q := h.2 _ hm
  have b4 := hn L[j] (List.getElem_mem hj2)
  unfold inB at q
  simp at q
  omega
theorem mem_erase1 {α : Type} [DecidableEq α] {a b : α} {l : List α} (h : b ∈ l) (n : b ≠ a) : b ∈ l.erase a := (List.mem_erase_of_ne n).mpr h
theorem sub_len {α : Type} [DecidableEq α] : ∀ {l m : List α}, l.Nodup → (∀ v ∈ l, v ∈ m) → l.length ≤ m.length
  | [], _, _, _ => Nat.zero_le _
  | a :: l, m, nd, h => by
    rw [List.nodup_cons] at nd
    have ha := h a List.mem_cons_self
    have ih := sub_len (l := l) (m := m.erase a) nd.2 fun v hv => mem_erase1 (h v (List.mem_cons_of_mem _ hv)) fun z => nd.1 (z ▸ hv)
    rw [List.length_erase_of_mem ha] at ih
    have := List.length_pos_of_mem ha
    rw [List.length_cons]
    omega
theorem Rise.nodup {l : List (List Int)} (h : Rise l) : l.Nodup := List.Pairwise.imp (fun {a b} q => fun z => by subst z; rw [lexLt_irrefl] at q; cases q) h
/-- what the drawn locks keep -/
structure LockOk (L : List Bolt) : Prop where
  least : 1 ≤ L.length
  most : L.length ≤ 60
  bolts : ∀ k b, L[k]? = some b → boltB (L.take k) b = true
  few : ∃ gen : List (List Int), gen.length ≤ 8 ∧ ∀ k b, L[k]? = Option.some b → ∀ w ∈ waysF b, ∃ g ∈ gen, k ≤ g.length ∧ w = g.take k
theorem boltB_n {L : List Bolt} {b : Bolt} (h : boltB L b = true) : 2 ≤ b.n ∧ b.n ≤ 4 := by
  unfold boltB at h
  simp only [Bool.and_eq_true, decide_eq_true_eq] at h
  exact h.1.1.1
theorem boltB_word {L : List Bolt} {b : Bolt} (h : boltB L b = true) : ∀ w ∈ waysF b, wordB L w = true := by
  unfold boltB at h
  simp only [Bool.and_eq_true, List.all_eq_true] at h
  intro w hw
  unfold waysF at hw
  rw [List.mem_flatMap] at hw
  obtain ⟨g, hg, hw⟩ := hw
  have q := h.1.2 g hg
  unfold gapB at q
  simp only [Bool.and_eq_true, List.all_eq_true] at q
  exact q.2.1 w hw
theorem boltB_few {L : List Bolt} {b : Bolt} (h : boltB L b = true) : (waysF b).length ≤ 8 := by
  unfold boltB at h
  simp only [Bool.and_eq_true, decide_eq_true_eq] at h
  have q := h.2.2
  unfold waysF
  rw [List.length_flatMap]
  exact q
theorem LockOk.n4 {L : List Bolt} (ok : LockOk L) : ∀ b ∈ L, 2 ≤ b.n ∧ b.n ≤ 4 := fun b hb => by
  obtain ⟨j, hj, e⟩ := List.mem_iff_getElem.mp hb
  exact boltB_n (ok.bolts j b (by rw [List.getElem?_eq_getElem hj, e]))
theorem LockOk.way {L : List Bolt} (ok : LockOk L) {k : Nat} {b : Bolt} (h : L[k]? = Option.some b) {w : List Int} (hw : w ∈ waysF b) : w.length = k ∧ ∀ i ∈ w, 0 ≤ i ∧ i < 4 := by
  have hk := (List.getElem?_eq_some_iff.mp h).1
  have q := boltB_word (ok.bolts k b h) w hw
  refine ⟨?_, wordB_dig q fun b hb => (ok.n4 b (List.mem_of_mem_take hb)).2⟩
  rw [wordB_len q, List.length_take]
  omega
theorem sortedSet_ok {xs : List (List Int)} {d : Nat} {S : Store} {Q : D → Store → Prop} {X : Exn → Store → Prop} {v : D} (hv : v.list? = some (xs.map wordTup)) (hl : xs.length < 64) (h : ∀ w ∈ xs, w.length = d ∧ ∀ i ∈ w, 0 ≤ i ∧ i < 4) (q : Q (.own ((wordSort xs).map wordTup)) S) : Ok (biM .sortedSet v) S Q X := by
  have e : sortedSetD (xs.map wordTup) = some ((wordSort xs).map wordTup) := by
    unfold sortedSetD
    rw [words_map]
    have ok : ∀ w ∈ xs, wordOk d w = true := fun w hw => by
      unfold wordOk
      rw [(h w hw).1]
      simp
      exact (h w hw).2
    cases xs with
    | nil => simp
    | cons w r =>
      have e1 : w.length = d := (h w List.mem_cons_self).1
      have e2 : (r.all (wordOk w.length) && wordOk w.length w) = true := by
        rw [e1, ok w List.mem_cons_self, Bool.and_true, List.all_eq_true]
        exact fun v hv => ok v (List.mem_cons_of_mem _ hv)
      show (if (decide ((w :: r).length < 64) && (r.all (wordOk w.length) && wordOk w.length w)) = true then _ else _) = _
      rw [e2, if_pos (by simpa using hl)]
  have e2 : biM .sortedSet v S = .ok (.own ((wordSort xs).map wordTup)) S := by
    unfold biM
    simp only [hv, Option.bind_some, e]
  exact Ok.of e2 q
theorem le_sum {n : Nat} : ∀ {l : List Nat}, n ∈ l → n ≤ l.sum
  | a :: r, h => by
    rw [List.sum_cons]
    rcases List.mem_cons.mp h with rfl | h
    · omega
    · have := le_sum h
      omega
theorem pys_map {α : Type} (e : α → D) (f : α → PyData) (h : ∀ x, (e x).py = some (f x)) : ∀ l : List α, D.pys (l.map e) = some (l.map f)
  | [] => rfl
  | a :: r => by
    show (match (e a).py, D.pys (r.map e) with | some e, some s => some (e :: s) | _, _ => none) = _
    rw [h a, pys_map e f h r]
    rfl
def wordP (w : List Int) : PyData := .tuple (w.map PyData.int)
theorem py_word (w : List Int) : (wordTup w).py = some (wordP w) := by
  show (D.pys (w.map D.int)).map PyData.tuple = _
  rw [pys_map D.int PyData.int (fun _ => rfl)]
  rfl
theorem eqvAll_nums : ∀ v w : List Int, PyData.eqvAll (v.map PyData.int) (w.map PyData.int) = decide (v = w)
  | [], [] => rfl
  | [], _ :: _ => rfl
  | _ :: _, [] => rfl
  | a :: r, b :: s => by
    show (PyData.eqv (.int a) (.int b) && PyData.eqvAll (r.map PyData.int) (s.map PyData.int)) = _
    rw [eqvAll_nums r s]
    show ((a == b) && decide (r = s)) = _
    by_cases h : a = b <;> by_cases h2 : r = s <;> simp [h, h2]
theorem eqv_word (v w : List Int) : PyData.eqv (wordP v) (wordP w) = decide (v = w) := eqvAll_nums v w
theorem lay_all {α : Type} (f : α → PyData) (h : ∀ x, (f x).canLay0 = true) : ∀ l : List α, PyData.canLayAll0 (l.map f) = true
  | [] => rfl
  | a :: r => by
    show ((f a).canLay0 && PyData.canLayAll0 (r.map f)) = true
    rw [h a, lay_all f h r]
    rfl
theorem depth_all {α : Type} (f : α → PyData) {n : Nat} (h : ∀ x, (f x).depth ≤ n) : ∀ l : List α, PyData.depthAll (l.map f) ≤ n
  | [] => Nat.zero_le _
  | a :: r => by
    show max (f a).depth (PyData.depthAll (r.map f)) ≤ n
    exact Nat.max_le.mpr ⟨h a, depth_all f h r⟩
theorem word_lay (w : List Int) : (wordP w).canLay0 = true := lay_all PyData.int (fun _ => rfl) w
theorem word_depth (w : List Int) : (wordP w).depth ≤ 1 := by
  show PyData.depthAll (w.map PyData.int) + 1 ≤ 1
  have := depth_all PyData.int (n := 0) (fun _ => Nat.le_refl _) w
  omega
theorem shaped_of {x : PyData} (h : x.canLay0 = true) (d : x.depth ≤ 64) : SeqAt.shaped x = true := by
  unfold SeqAt.shaped
  rw [h, Bool.true_and]
  exact decide_eq_true d
theorem mem_words (w : List Int) (ws : List (List Int)) : memD (wordTup w) (.tup (ws.map wordTup)) = some (decide (w ∈ ws)) := by
  have e : (D.tup (ws.map wordTup)).py = some (.tuple (ws.map wordP)) := by
    show (D.pys (ws.map wordTup)).map PyData.tuple = _
    rw [pys_map wordTup wordP py_word]
    rfl
  have s1 : SeqAt.shaped (wordP w) = true := shaped_of (word_lay w) (by have := word_depth w; omega)
  have s2 : SeqAt.shaped (.tuple (ws.map wordP)) = true := shaped_of (lay_all wordP word_lay ws) (by
    show PyData.depthAll (ws.map wordP) + 1 ≤ 64
    have := depth_all wordP word_depth ws
    omega)
  show memL (wordTup w) (.tup (ws.map wordTup)) = _
  unfold memL
  rw [py_word, e]
  simp only [s1, s2, Bool.and_self, if_true]
  congr 1
  rw [List.any_map]
  clear e s2
  induction ws with
  | nil => rfl
  | cons a r ih =>
    rw [List.any_cons, ih]
    simp only [Function.comp, eqv_word]
    by_cases h : a = w
    · simp [h]
    · by_cases h2 : w ∈ r <;> simp [h, h2, Ne.symm h]
theorem eqD_py {a b : D} {x y : PyData} (ha : a.py = some x) (hb : b.py = some y) (sx : SeqAt.shaped x = true) (sy : SeqAt.shaped y = true) (hn : ∀ s, a ≠ .str s) : eqD a b = some (PyData.eqv x y) := by
  unfold eqD
  split
  · exact absurd rfl (hn _)
  · rw [ha, hb]
    simp [sx, sy]
mutual
theorem eqv_self : ∀ x : PyData, x.canLay0 = true → PyData.eqv x x = true
  | .none, _ => rfl
  | .bool b, _ => by simp [PyData.eqv]
  | .int i, _ => by simp [PyData.eqv]
  | .str s, _ => by simp [PyData.eqv]
  | .list xs, h => by
    have h : PyData.canLayAll0 xs = true := h
    show PyData.eqvAll xs xs = true
    exact eqvAll_self xs h
  | .tuple xs, h => by
    have h : PyData.canLayAll0 xs = true := h
    show PyData.eqvAll xs xs = true
    exact eqvAll_self xs h
  | .dict _, h => by cases h
theorem eqvAll_self : ∀ xs : List PyData, PyData.canLayAll0 xs = true → PyData.eqvAll xs xs = true
  | [], _ => rfl
  | x :: r, h => by
    have h : (x.canLay0 && PyData.canLayAll0 r) = true := h
    rw [Bool.and_eq_true] at h
    show (PyData.eqv x x && PyData.eqvAll r r) = true
    rw [eqv_self x h.1, eqvAll_self r h.2]
    rfl
end
def stepD (s : Nat × Int × Int) : D := .tup [.int s.1, .int s.2.1, .int s.2.2]
def stepB (st : List Int) (k : Nat) (g : Gap) : Bool := decide (st[k]? = some g.h) && decide (st.take k ∈ g.ws)
def stepsAt (st : List Int) (p : Bolt × Nat) : List (Nat × Int × Int) := (p.1.gs.filter (stepB st p.2)).map fun g => (p.2, g.t, g.p)
def stepsF (L : List Bolt) (st : List Int) : List (Nat × Int × Int) := L.zipIdx.flatMap (stepsAt st)
theorem flat_len {α β : Type} {f : α → List β} {n : Nat} : ∀ {l : List α}, (∀ x ∈ l, (f x).length ≤ n) → (l.flatMap f).length ≤ n * l.length
  | [], _ => by simp
  | a :: r, h => by
    rw [List.flatMap_cons, List.length_append, List.length_cons, Nat.mul_add, Nat.mul_one]
    have h1 := h a List.mem_cons_self
    have h2 := flat_len (l := r) fun x hx => h x (List.mem_cons_of_mem _ hx)
    omega
theorem boltB_gaps {L : List Bolt} {b : Bolt} (h : boltB L b = true) : b.gs.length ≤ 12 := by
  unfold boltB at h
  simp only [Bool.and_eq_true, decide_eq_true_eq] at h
  exact h.1.1.2
theorem zip_at {L : List Bolt} {p : Bolt × Nat} {done rest : List (Bolt × Nat)} (e : L.zipIdx = done ++ p :: rest) : p.2 = done.length ∧ L[done.length]? = some p.1 := by
  have h1 : (L.zipIdx)[done.length]? = some p := by rw [e]; simp
  rw [List.getElem?_zipIdx] at h1
  cases h2 : L[done.length]? with
  | none => rw [h2] at h1; cases h1
  | some b => rw [h2] at h1; cases h1; simp
theorem zip_mem {L : List Bolt} {p : Bolt × Nat} (h : p ∈ L.zipIdx) : L[p.2]? = some p.1 := by
  obtain ⟨done, rest, e⟩ := List.append_of_mem h
  obtain ⟨h1, h2⟩ := zip_at e
  rw [h1]
  exact h2
theorem wordB_iff {L : List Bolt} {w : List Int} : wordB L w = true ↔ w.length = L.length ∧ ∀ (i : Nat) (x : Int) (b : Bolt), w[i]? = some x → L[i]? = some b → 0 ≤ x ∧ x ≤ b.n - 1 := by
  unfold wordB
  rw [Bool.and_eq_true, List.all_eq_true, decide_eq_true_eq]
  refine and_congr_right fun hl => ⟨fun h i x b h1 h2 => ?_, fun h p hp => ?_⟩
  · have hm : (x, b) ∈ w.zip L := by
      rw [List.mem_iff_getElem?]
      exact ⟨i, by rw [List.getElem?_zip_eq_some]; exact ⟨h1, h2⟩⟩
    have q := h _ hm
    unfold inB at q
    simpa using q
  · obtain ⟨i, hi⟩ := List.mem_iff_getElem?.mp hp
    rw [List.getElem?_zip_eq_some] at hi
    have q := h i _ _ hi.1 hi.2
    unfold inB
    simpa using q
theorem wordB_join {L : List Bolt} {v w : List Int} {j : Nat} (hj : j ≤ L.length) (hv : wordB (L.take j) v = true) (hw : wordB L w = true) : wordB L (v ++ w.drop v.length) = true := by
  rw [wordB_iff] at *
  have hl : v.length = j := by rw [hv.1, List.length_take]; omega
  refine ⟨by rw [List.length_append, List.length_drop]; omega, fun i x b h1 h2 => ?_⟩
  by_cases hi : i < v.length
  · rw [List.getElem?_append_left hi] at h1
    exact hv.2 i x b h1 (by rw [List.getElem?_take_of_lt (by omega)]; exact h2)
  · rw [List.getElem?_append_right (by omega), List.getElem?_drop] at h1
    exact hw.2 i x b (by rw [← h1]; congr 1; omega) h2
theorem wordB_mix {L : List Bolt} {v w : List Int} {j : Nat} (hj : j ≤ L.length) (hv : wordB L v = true) (hw : wordB L w = true) : wordB L (v.take j ++ w.drop j) = true := by
  have hl := wordB_len hv
  have h2 : wordB (L.take j) (v.take j) = true := by
    rw [wordB_iff] at *
    refine ⟨by simp [hl], fun i x b h1 h2 => ?_⟩
    rw [List.getElem?_take] at h1 h2
    by_cases hi : i < j
    · rw [if_pos hi] at h1 h2
      exact hv.2 i x b h1 h2
    · rw [if_neg hi] at h1; cases h1
  have := wordB_join hj h2 hw
  rw [List.length_take, hl, Nat.min_eq_left hj] at this
  exact this
theorem wordB_snoc {L : List Bolt} {w : List Int} {b : Bolt} {x : Int} (h : wordB L w = true) (hx : 0 ≤ x ∧ x < b.n) : wordB (L ++ [b]) (w ++ [x]) = true := by
  rw [wordB_iff] at *
  refine ⟨by simp [h.1], fun i y c h1 h2 => ?_⟩
  by_cases hi : i < w.length
  · rw [List.getElem?_append_left hi] at h1
    rw [List.getElem?_append_left (by omega)] at h2
    exact h.2 i y c h1 h2
  · rw [List.getElem?_append_right (by omega)] at h1
    rw [List.getElem?_append_right (by omega)] at h2
    have e : i - w.length = 0 := by
      have := (List.getElem?_eq_some_iff.mp h1).1
      simp at this
      omega
    have e' : i - L.length = 0 := by omega
    rw [e] at h1
    rw [e'] at h2
    cases h1
    cases h2
    omega
def waysL (L : List Bolt) : List (List Int) := L.flatMap waysF
theorem LockOk.w8 {L : List Bolt} (ok : LockOk L) : ∀ c ∈ L, (waysF c).length ≤ 8 := fun c hc => by
  obtain ⟨j, hj, ej⟩ := List.mem_iff_getElem.mp hc
  exact boltB_few (ok.bolts j c (by rw [List.getElem?_eq_getElem hj, ej]))
theorem LockOk.ways {L : List Bolt} (ok : LockOk L) : (waysL L).length ≤ 480 := by
  have h1 := flat_len (l := L) (f := waysF) (n := 8) ok.w8
  have h2 := ok.most
  unfold waysL
  omega
theorem LockOk.inWays {L : List Bolt} (ok : LockOk L) {u : List Int} (h : u ∈ waysL L) : ∃ j, j ≤ L.length ∧ wordB (L.take j) u = true := by
  unfold waysL at h
  rw [List.mem_flatMap] at h
  obtain ⟨c, hc, hu⟩ := h
  obtain ⟨j, hj, ej⟩ := List.mem_iff_getElem.mp hc
  exact ⟨j, by omega, boltB_word (ok.bolts j c (by rw [List.getElem?_eq_getElem hj, ej])) u hu⟩
structure GapsOk (N : Nat) (words : List (List Int)) (gs : List Gap) : Prop where
  at_ : ∀ g ∈ gs, (0 ≤ g.h ∧ g.h < N) ∧ (0 ≤ g.t ∧ g.t < N) ∧ g.h ≠ g.t ∧ 1 ≤ g.p ∧ g.p ≤ 1000000 ∧ g.ws.Sublist words
  rise : Rise (gs.map fun g => [g.h, g.t])
  few : (gs.map fun g => g.ws.length).sum ≤ 8
theorem lex2 {a b c d : Int} : HT.lexLt [a, b] [c, d] = true ↔ a < c ∨ (a = c ∧ b < d) := by
  rw [HT.lexLt_cons, HT.lexLt_cons, HT.lexLt_nil_nil]
  by_cases h : a = c
  · by_cases h2 : b = d <;> simp [h, h2]
  · simp [h]
theorem riseB_of : ∀ {l : List (List Int)}, Rise l → riseB l = true
  | [], _ => rfl
  | [_], _ => rfl
  | a :: b :: r, h => by
    rw [Rise, List.pairwise_cons] at h
    show (HT.lexLt a b && riseB (b :: r)) = true
    rw [h.1 b List.mem_cons_self, riseB_of h.2]
    rfl
/-- the twelve ways from place to place -/
def pairs12 : List (List Int) := [[0, 1], [0, 2], [0, 3], [1, 0], [1, 2], [1, 3], [2, 0], [2, 1], [2, 3], [3, 0], [3, 1], [3, 2]]
theorem mem12 {a b : Int} (ha : 0 ≤ a ∧ a < 4) (hb : 0 ≤ b ∧ b < 4) (h : a ≠ b) : [a, b] ∈ pairs12 := by
  obtain rfl | rfl | rfl | rfl : a = 0 ∨ a = 1 ∨ a = 2 ∨ a = 3 := by omega
  all_goals obtain rfl | rfl | rfl | rfl : b = 0 ∨ b = 1 ∨ b = 2 ∨ b = 3 := by omega
  all_goals first | exact absurd rfl h | decide
theorem GapsOk.len {N : Nat} {words : List (List Int)} {gs : List Gap} (h : GapsOk N words gs) (hN : N ≤ 4) : gs.length ≤ 12 := by
  have := sub_len (m := pairs12) h.rise.nodup fun v hv => by
    obtain ⟨g, hg, rfl⟩ := List.mem_map.mp hv
    obtain ⟨h1, h2, h3, _⟩ := h.at_ g hg
    exact mem12 ⟨h1.1, by omega⟩ ⟨h2.1, by omega⟩ h3
  rw [List.length_map] at this
  exact this
theorem GapsOk.bolt {N : Nat} {words : List (List Int)} {gs : List Gap} (h : GapsOk N words gs) (h2 : 2 ≤ N) (hN : N ≤ 4) {L : List Bolt} (hr : Rise words) (hw : ∀ w ∈ words, wordB L w = true) : boltB L ⟨N, gs⟩ = true := by
  have l12 := h.len hN
  unfold boltB
  simp only [Bool.and_eq_true, decide_eq_true_eq, List.all_eq_true]
  refine ⟨⟨⟨⟨by omega, by omega⟩, l12⟩, fun g hg => ?_⟩, riseB_of h.rise, h.few⟩
  obtain ⟨a1, a2, a3, a4, a5, a6⟩ := h.at_ g hg
  unfold gapB
  simp only [Bool.and_eq_true, decide_eq_true_eq, List.all_eq_true, Bool.not_eq_true', decide_eq_false_iff_not]
  exact ⟨⟨⟨⟨a1.1, by omega⟩, ⟨a2.1, by omega⟩, a3⟩, a4, a5⟩, fun w hw' => hw w (a6.subset hw'), riseB_of (hr.sublist a6)⟩
end WB
namespace WB
open PySem L2

/-- can be written, in at most n signs -/
structure SB (p : PyData) (n : Nat) : Prop where
  sh : p.showable = true
  nd : p.hasDict = false
  ln : p.shown.length ≤ n
theorem SB.mono {p : PyData} {n m : Nat} (h : SB p n) (l : n ≤ m) : SB p m := ⟨h.sh, h.nd, Nat.le_trans h.ln l⟩
theorem SB_int {i : Int} {k : Nat} (h0 : 0 ≤ i) (h7 : i < 10 ^ 7) (hk : 0 < k) (h : i < 10 ^ k) : SB (.int i) k := by
  refine ⟨?_, rfl, ?_⟩
  · show decide (i.natAbs.log2 < 1920) = true
    refine decide_eq_true ?_
    have h1 : i.natAbs < 2 ^ 24 := by omega
    by_cases z : i.natAbs = 0
    · rw [z]; decide
    · have := (Nat.log2_lt z).mpr h1
      omega
  · show (Str.ofString (toString i)).length ≤ k
    exact PyProof.Rows.toString_length_le h0 hk h
theorem SB_int7 {i : Int} (h0 : 0 ≤ i) (h7 : i < 10 ^ 7) : SB (.int i) 7 := SB_int h0 h7 (by decide) h7
theorem SB_all {n : Nat} : ∀ {xs : List PyData}, (∀ x ∈ xs, SB x n) → PyData.showableAll xs = true ∧ PyData.hasDictAll xs = false ∧ ((PyData.shownAll xs).map (·.length)).sum ≤ n * xs.length ∧ (PyData.shownAll xs).length = xs.length
  | [], _ => ⟨rfl, rfl, Nat.zero_le _, rfl⟩
  | x :: r, h => by
    have hx := h x List.mem_cons_self
    obtain ⟨a, b, c, d⟩ := SB_all fun y hy => h y (List.mem_cons_of_mem x hy)
    refine ⟨?_, ?_, ?_, ?_⟩
    · show (x.showable && PyData.showableAll r) = true
      rw [hx.sh, a]; rfl
    · show (x.hasDict || PyData.hasDictAll r) = false
      rw [hx.nd, b]; rfl
    · show (x.shown.length + ((PyData.shownAll r).map (·.length)).sum) ≤ n * (r.length + 1)
      have := hx.ln
      rw [Nat.mul_add]
      omega
    · show (PyData.shownAll r).length + 1 = r.length + 1
      rw [d]
theorem SB_tuple {n m : Nat} {xs : List PyData} (h : ∀ x ∈ xs, SB x n) (hm : xs.length ≤ m) : SB (.tuple xs) ((n + 2) * m + 3) := by
  obtain ⟨a, b, c, d⟩ := SB_all h
  refine ⟨a, b, ?_⟩
  show (tupleText (PyData.shownAll xs)).length ≤ _
  have := tupleText_len_le (PyData.shownAll xs)
  rw [d] at this
  have h2 := Nat.mul_le_mul_left (n + 2) hm
  rw [Nat.add_mul] at h2
  omega
theorem SB_list {n m : Nat} {xs : List PyData} (h : ∀ x ∈ xs, SB x n) (hm : xs.length ≤ m) : SB (.list xs) ((n + 2) * m + 3) := by
  obtain ⟨a, b, c, d⟩ := SB_all h
  refine ⟨a, b, ?_⟩
  show (listText (PyData.shownAll xs)).length ≤ _
  have := listText_len_le (PyData.shownAll xs)
  rw [d] at this
  have h2 := Nat.mul_le_mul_left (n + 2) hm
  rw [Nat.add_mul] at h2
  omega
theorem repr_ok {d : D} {p : PyData} {n : Nat} {S : Store} {Q : D → Store → Prop} {X : Exn → Store → Prop} (hp : d.py = some p) (sb : SB p n) (hn : n ≤ sizeLine) (hd : p.depth ≤ 60) : Ok (biM .repr d) S Q X = Q (.str p.shown) S := by
  have e : biM .repr d S = .ok (.str p.shown) S := by
    have l : p.shown.length ≤ sizeLine := Nat.le_trans sb.ln hn
    have e1 : biM .repr d S = (match d.py with | some p => if p.showable && !p.hasDict && decide (p.depth ≤ 60) && decide (p.shown.length ≤ sizeLine) then .ok (.str p.shown) S else .bad | none => match d.pyR with | some p => if p.showable && decide (p.depth ≤ 60) && decide (p.shown.length ≤ sizeLine) then .ok (.str p.shown) S else .bad | none => .bad) := by cases d <;> rfl
    rw [e1, hp]
    simp only [sb.sh, sb.nd, hd, l, decide_true, Bool.not_false, Bool.and_self, if_true]
  rw [Ok_eq]
  unfold OkM
  rw [e]
def gapP (g : Gap) : PyData := .tuple [.int g.h, .int g.t, .int g.p, .tuple (g.ws.map wordP)]
def boltP (b : Bolt) : PyData := .tuple [.int b.n, .tuple (b.gs.map gapP)]
def lockP (L : List Bolt) : PyData := .tuple (L.map boltP)
def stepP (s : Nat × Int × Int) : PyData := .tuple [.int s.1, .int s.2.1, .int s.2.2]
theorem py_gap (g : Gap) : (gapD g).py = some (gapP g) := by
  simp only [gapD, D.py, D.pys, pys_map wordTup wordP py_word, Option.map_some, gapP]
theorem py_bolt (b : Bolt) : (boltD b).py = some (boltP b) := by
  simp only [boltD, D.py, D.pys, pys_map gapD gapP py_gap, Option.map_some, boltP]
theorem py_lock (L : List Bolt) : (lockD L).py = some (lockP L) := by
  simp only [lockD, D.py, pys_map boltD boltP py_bolt, Option.map_some, lockP]
theorem py_step (s : Nat × Int × Int) : (stepD s).py = some (stepP s) := rfl
theorem pys_steps (l : List (Nat × Int × Int)) : D.pys (l.map stepD) = some (l.map stepP) := pys_map stepD stepP py_step l
theorem gap_depth (g : Gap) : (gapP g).depth ≤ 3 := by
  have := depth_all wordP word_depth g.ws
  simp only [gapP, PyData.depth, PyData.depthAll]
  omega
theorem bolt_depth (b : Bolt) : (boltP b).depth ≤ 5 := by
  have := depth_all gapP gap_depth b.gs
  simp only [boltP, PyData.depth, PyData.depthAll]
  omega
theorem lock_depth (L : List Bolt) : (lockP L).depth ≤ 6 := by
  have := depth_all boltP bolt_depth L
  simp only [lockP, PyData.depth]
  omega
theorem step_depth (s : Nat × Int × Int) : (stepP s).depth ≤ 1 := by
  simp only [stepP, PyData.depth, PyData.depthAll]
  omega
theorem steps_depth (l : List (Nat × Int × Int)) : (PyData.list (l.map stepP)).depth ≤ 2 := by
  have := depth_all stepP step_depth l
  simp only [PyData.depth]
  omega
theorem steps_lay (l : List (Nat × Int × Int)) : (PyData.list (l.map stepP)).canLay0 = true := lay_all stepP (fun _ => rfl) l
theorem word_sb {L : List Bolt} {w : List Int} (h : wordB L w = true) (h4 : ∀ b ∈ L, b.n ≤ 4) (h60 : L.length ≤ 60) : SB (wordP w) 183 := by
  refine (SB_tuple (n := 1) (m := 60) (fun x hx => ?_) ?_).mono (by omega)
  · obtain ⟨i, hi, rfl⟩ := List.mem_map.mp hx
    have := wordB_dig h h4 i hi
    exact SB_int this.1 (by omega) (by decide) (by omega)
  · rw [List.length_map, wordB_len h]
    exact h60
theorem lock_sbN {L : List Bolt} {m : Nat} (ok : LockOk L) (hm : L.length ≤ m) : SB (lockP L) ((279000 + 2) * m + 3) := by
  have l60 := ok.most
  refine SB_tuple (n := 279000) (m := m) (fun x hx => ?_) (by rw [List.length_map]; exact hm)
  obtain ⟨b, hb, rfl⟩ := List.mem_map.mp hx
  obtain ⟨j, hj, ej⟩ := List.mem_iff_getElem.mp hb
  have bo := ok.bolts j b (by rw [List.getElem?_eq_getElem hj, ej])
  have n4 := boltB_n bo
  have g12 := boltB_gaps bo
  have wb := boltB_word bo
  have w8 := boltB_few bo
  have t4 : ∀ c ∈ L.take j, c.n ≤ 4 := fun c hc => (ok.n4 c (List.mem_of_mem_take hc)).2
  have t60 : (L.take j).length ≤ 60 := by rw [List.length_take]; omega
  unfold boltB at bo
  simp only [Bool.and_eq_true, List.all_eq_true] at bo
  have gb := bo.1.2
  unfold boltP
  refine (SB_tuple (n := 139000) (m := 2) (fun x hx => ?_) (by simp)).mono (by omega)
  simp only [List.mem_cons, List.not_mem_nil, or_false] at hx
  rcases hx with rfl | rfl
  · exact (SB_int7 (by omega) (by omega)).mono (by omega)
  · refine (SB_tuple (n := 11500) (m := 12) (fun x hx => ?_) (by rw [List.length_map]; exact g12)).mono (by omega)
    obtain ⟨g, hg, rfl⟩ := List.mem_map.mp hx
    have q := gb g hg
    unfold gapB at q
    simp only [Bool.and_eq_true, decide_eq_true_eq] at q
    have gw : ∀ w ∈ g.ws, w ∈ waysF b := fun w hw => List.mem_flatMap.mpr ⟨g, hg, hw⟩
    have gl : g.ws.length ≤ 8 := by
      have h1 : g.ws.length ≤ ((b.gs.map fun g => g.ws.length)).sum := le_sum (List.mem_map.mpr ⟨g, hg, rfl⟩)
      unfold waysF at w8
      rw [List.length_flatMap] at w8
      omega
    unfold gapP
    refine (SB_tuple (n := 2800) (m := 4) (fun x hx => ?_) (by simp)).mono (by omega)
    simp only [List.mem_cons, List.not_mem_nil, or_false] at hx
    rcases hx with rfl | rfl | rfl | rfl
    · exact (SB_int7 (by omega) (by omega)).mono (by omega)
    · exact (SB_int7 (by omega) (by omega)).mono (by omega)
    · exact (SB_int7 (by omega) (by omega)).mono (by omega)
    · refine (SB_tuple (n := 183) (m := 8) (fun x hx => ?_) (by rw [List.length_map]; exact gl)).mono (by omega)
      obtain ⟨w, hw, rfl⟩ := List.mem_map.mp hx
      exact word_sb (wb w (gw w hw)) t4 t60
theorem steps_len {L : List Bolt} (ok : LockOk L) (st : List Int) : (stepsF L st).length ≤ 720 := by
  have h1 := flat_len (l := L.zipIdx) (f := stepsAt st) (n := 12) fun p hp => by
    unfold stepsAt
    rw [List.length_map]
    exact Nat.le_trans (List.length_filter_le _ _) (boltB_gaps (ok.bolts _ _ (zip_mem hp)))
  rw [List.length_zipIdx] at h1
  have := ok.most
  unfold stepsF
  omega
theorem steps_sb {L : List Bolt} (ok : LockOk L) (st : List Int) : SB (.list ((stepsF L st).map stepP)) 24000 := by
  refine (SB_list (n := 30) (m := 720) (fun x hx => ?_) (by rw [List.length_map]; exact steps_len ok st)).mono (by omega)
  obtain ⟨s, hs, rfl⟩ := List.mem_map.mp hx
  unfold stepsF at hs
  obtain ⟨p, hp, hs⟩ := List.mem_flatMap.mp hs
  unfold stepsAt at hs
  obtain ⟨g, hg, rfl⟩ := List.mem_map.mp hs
  have hg := (List.mem_filter.mp hg).1
  have z := zip_mem hp
  have hk := (List.getElem?_eq_some_iff.mp z).1
  have bo := ok.bolts _ _ z
  have n4 := boltB_n bo
  have l60 := ok.most
  unfold boltB at bo
  simp only [Bool.and_eq_true, List.all_eq_true] at bo
  have q := bo.1.2 g hg
  unfold gapB at q
  simp only [Bool.and_eq_true, decide_eq_true_eq] at q
  unfold stepP
  refine (SB_tuple (n := 7) (m := 3) (fun x hx => ?_) (by simp)).mono (by omega)
  simp only [List.mem_cons, List.not_mem_nil, or_false] at hx
  rcases hx with rfl | rfl | rfl
  · exact SB_int7 (by omega) (by omega)
  · exact SB_int7 (by omega) (by omega)
  · exact SB_int7 (by omega) (by omega)
theorem lock_sb {L : List Bolt} (ok : LockOk L) : SB (lockP L) 16777216 := (lock_sbN ok ok.most).mono (by omega)
/-- the steps of the bolts below a place hang on the places below it alone -/
theorem steps_below {L : List Bolt} {st st' : List Int} {a : Nat} (h : st.take a = st'.take a) : (stepsF L st).filter (fun s => decide (s.1 < a)) = (stepsF L st').filter (fun s => decide (s.1 < a)) := by
  unfold stepsF
  rw [List.filter_flatMap, List.filter_flatMap]
  congr 1
  funext p
  by_cases hp : p.2 < a
  · have e1 : st[p.2]? = st'[p.2]? := by
      have := congrArg (·[p.2]?) h
      simpa [List.getElem?_take, hp] using this
    have e2 : st.take p.2 = st'.take p.2 := by
      have := congrArg (List.take p.2) h
      rw [List.take_take, List.take_take, Nat.min_eq_left (by omega)] at this
      exact this
    have e3 : stepB st p.2 = stepB st' p.2 := by
      funext g
      unfold stepB
      rw [e1, e2]
    unfold stepsAt
    rw [e3]
  · have no : ∀ u : List Int, (stepsAt u p).filter (fun s => decide (s.1 < a)) = [] := fun u => by
      rw [List.filter_eq_nil_iff]
      intro s hs
      unfold stepsAt at hs
      obtain ⟨g, _, rfl⟩ := List.mem_map.mp hs
      simpa using hp
    rw [no, no]
theorem eq_steps (a b : D) (l : List (Nat × Int × Int)) (ha : a.list? = some (l.map stepD)) (hb : b.list? = some (l.map stepD)) : eqD a b = some true := by
  have pa : ∀ d : D, d.list? = some (l.map stepD) → d.py = some (.list (l.map stepP)) ∧ ∀ s, d ≠ .str s := fun d hd => by
    cases d <;> cases hd
    all_goals
      refine ⟨?_, fun s z => by cases z⟩
      show (D.pys (l.map stepD)).map PyData.list = _
      rw [pys_steps]
      rfl
  have sh : SeqAt.shaped (.list (l.map stepP)) = true := shaped_of (steps_lay l) (by have := steps_depth l; omega)
  rw [eqD_py (pa a ha).1 (pa b hb).1 sh sh (pa a ha).2, eqv_self _ (steps_lay l)]
theorem sl_take (w : List Int) (k : Nat) : slD (wordTup w) none (some (k : Int)) = some (wordTup (w.take k)) := by
  show some (D.tup (cut (w.map D.int) none (some (k : Int)))) = _
  rw [cut_take, ← List.map_take]
  rfl
theorem sl_drop (w : List Int) (k : Nat) : slD (wordTup w) (some (k : Int)) none = some (wordTup (w.drop k)) := by
  show some (D.tup (cut (w.map D.int) (some (k : Int)) none)) = _
  rw [cut_drop, ← List.map_drop]
  rfl
theorem add_word {v w : List Int} (h : v.length + w.length ≤ sizeLine) : binD .add (wordTup v) (wordTup w) = some (wordTup (v ++ w)) := by
  unfold wordTup
  rw [bin_tup (by simpa using h), ← List.map_append]
theorem filterMap_steps (l : List (Nat × Int × Int)) (a : Nat) : l.filterMap (fun s => if s.1 < a then some (stepD s) else none) = (l.filter fun s => decide (s.1 < a)).map stepD := by
  induction l with
  | nil => rfl
  | cons x r ih =>
    rw [List.filterMap_cons, List.filter_cons, ih]
    by_cases h : x.1 < a <;> simp [h]
end WB
namespace WB
open PySem L2
variable {P : Program} {w : World} {K : PySem.W.Frag} {mg : Str → Option Value} {h : Heap}
theorem has_mk {x : Str} {st : Stmt} {N ps : List Str} {body : Ss} {f : Addr} {oc : Value} {od an : Option Addr} {osl : Array (Option Value)} {kV doc pm cdv ct : Value} (X : K.In h) (G : h.Ns mainGlobals mg) (a : PySem.W.nsIn K mainGlobals x = some (some (.ref f)))
    (l : K.lookup f = some ⟨oc, od, .func (PySem.W.fnOf x x (defArgs st) (defBody st) (defScope st) .none kV doc pm an cdv ct), osl⟩) (c : PySem.W.codeIn K cdv x = true) (k : PySem.W.keepIn K (.ref f) = true)
    (b : ∀ (kV doc pm : Value) (an : Option Addr) (cdv ct : Value) (us : List Value), us.length = ps.length → bindArgs (PySem.W.fnOf x x (defArgs st) (defBody st) (defScope st) .none kV doc pm an cdv ct) ⟨us, []⟩ = pure (ps.zip us)) : Has K mg ⟨x, st, N, ps, body⟩ :=
  ⟨f, _, PySem.W.mg_of X G a, fun_mk l c k, b _ _ _ _ _ _⟩
theorem cst_int {x : Str} {i : Int} {t : Nat} (X : K.In h) (G : h.Ns mainGlobals mg) (a : PySem.W.nsIn K mainGlobals x = some (some (.int i t))) : ∃ v u, mg x = some u ∧ RelV v u ∧ ∀ G H, Rl0 K G H v (.int i) := ⟨.int i, _, PySem.W.mg_of X G a, ⟨t, rfl⟩, fun _ _ => .int i⟩
theorem end_G {tab : List Dn} {fns cstN : List (Str × Nat)} {cst : Nat → Option D} {ct : CT} (hct : CtOk K mg ct) {k i : Nat} {d : Dn} {fa : Addr} {y : Str} (hd : tab[i]? = some d) (hps : d.ps = [y]) (hm : mg d.x = some (.ref fa))
    (hn : ∀ x i, (x, i) ∈ fns → ∃ d, tab[i]? = some d ∧ d.x = x) (hc : ∀ x j d, (x, j) ∈ cstN → cst j = some d → ∃ v u, mg x = some u ∧ RelV v u ∧ ∀ G H, Rl0 K G H v d) (hb : ∀ x ∈ bltNames, mg x = none) (hh : ∀ d ∈ tab, Has K mg d) (hk : ∀ d ∈ tab, chkD fns cstN ct d = true) :
    ∃ fd : FuncData, (∀ (s : Shared) (u : Value), BindsTo s fd ⟨[u], []⟩ [(y, u)]) ∧ ∀ base : Heap, (∃ o, base.get? sysModules = some o) → FnG P w K mg base k fa fd [y] (fnAt (tab.map Dn.fn) cst k i) := by
  obtain ⟨f0, fd0, m0, F0, b0⟩ := hh d (List.mem_of_getElem? hd)
  have e0 := hm.symm.trans m0
  cases e0
  refine ⟨fd0, fun s u => ?_, fun base hsm => ?_⟩
  · have := b0 [u] (by rw [hps]; rfl)
    rw [hps] at this
    exact .of_eq this
  · obtain ⟨f1, fd1, m1, F1, b1, g1⟩ := tab_G (P := P) (w := w) (base := base) hct hsm hn hc hb hh hk k i d hd
    have e1 := hm.symm.trans m1
    cases e1
    obtain ⟨_, _, _, _, _, _, _, _, _, _, l0, _⟩ := F0.ex
    obtain ⟨_, _, _, _, _, _, _, _, _, _, l1, _⟩ := F1.ex
    have e2 := l0.symm.trans l1
    simp only [Option.some.injEq, Obj.mk.injEq, Data.func.injEq] at e2
    obtain ⟨_, _, e2, _⟩ := e2
    rw [hps] at g1
    subst e2
    exact g1
theorem blt_mk (X : K.In h) (G : h.Ns mainGlobals mg) (e : bltNames.all (fun x => PySem.W.nsIn K mainGlobals x == some none) = true) : ∀ x ∈ bltNames, mg x = none := fun x hx => by
  rw [List.all_eq_true] at e
  exact PySem.W.mg_none_of X G (by simpa using e x hx)
section
open PySem.W
theorem cls_own {t : Str} {D : Addr} (X : K.In h) (G : h.Ns mainGlobals mg) (a : nsIn K mainGlobals t = some (some (.ref D))) : WB.ClsV mg t (.ref D) := .inl ⟨D, mg_of X G a, rfl⟩
theorem cls_blt {t : Str} {n : String} (X : K.In h) (G : h.Ns mainGlobals mg) (a : nsIn K mainGlobals t = some none) (e : bootBuiltins t = some (.type n)) (ne : t ≠ "__name__") : WB.ClsV mg t (.ty n) := .inr ⟨mg_none_of X G a, n, e, ne, rfl⟩
theorem is_mk {x t : Str} {C : Addr} {b : Bool} {v : V} (c : WB.ClsV mg t v) (a : nsIn K mainGlobals x = some (some (.ref C))) (g1 : findIn K (.ref C) "__getattribute__" = some (some (.builtin "BaseException.__getattribute__"))) (g2 : findIn K (.ref C) "__getattr__" = some none) (g3 : subIn K (.ref C) (.type "BaseException") = some true) (g4 : hasDictIn K C = true)
    (g5 : findIn K (.ref C) "__class__" = some (some (.builtin "object.__class__"))) (g6 : specialIn K (.builtin "object.__class__") "__get__" = some (some (.builtin "getset_descriptor.__get__"))) (g7 : takesIn K (.builtin "object.__class__") = some true) (g8 : mroIn K C (.type "object") = some true) (k : kitOne K (.ref C) (vVal v) = some b) : IsOk K mg x t b :=
  ⟨C, v, a, c, ⟨g1, g2, g3, g4, g5, g6, g7, g8⟩, k⟩
theorem sub_mk {x t : Str} {C : Addr} {b : Bool} {v : V} (c : WB.ClsV mg t v) (a : nsIn K mainGlobals x = some (some (.ref C))) (k : exmOne K (.ref C) (vVal v) = some b) : SubOk K mg x t b := ⟨C, v, a, c, k⟩
theorem fld_mk {x f : Str} {C : Addr} (a : nsIn K mainGlobals x = some (some (.ref C))) (g1 : findIn K (.ref C) "__getattribute__" = some (some (.builtin "BaseException.__getattribute__"))) (g2 : findIn K (.ref C) "__getattr__" = some none) (g3 : subIn K (.ref C) (.type "BaseException") = some true) (g4 : hasDictIn K C = true) (n : findIn K (.ref C) f = some none) : FldOk K x f := ⟨C, a, ⟨g1, g2, g3, g4⟩, n⟩
theorem rs0_mk {x : Str} {C : Addr} (X : K.In h) (G : h.Ns mainGlobals mg) (a : nsIn K mainGlobals x = some (some (.ref C))) (g1 : keepIn K (.ref C) = true) (g2 : excIn K C veTl "ValueError.__new__" = true) (g3 : subIn K (.ref C) (.type "BaseException") = some true) (g4 : typeIn K (.ref C) = some (.type "type")) : Rs0Ok K mg x := ⟨C, a, mg_of X G a, g1, g2, g3, g4⟩
theorem rs1_mk {x f bn qual : Str} (st : Stmt) {C fI CB : Addr} {nm q N bs bm sn sub ab col dd k0 k1 k2 k3 k5} {oc : Value} {od an : Option Addr} {osl : Array (Option Value)} {kV doc pm cdv ct : Value} (X : K.In h) (G : h.Ns mainGlobals mg) (a : nsIn K mainGlobals x = some (some (.ref C)))
    (g0 : K.lookup C = some (excClassObj nm q C N bs bm true sn sub ab col dd k0 k1 k2 k3 k5 "ValueError.__new__")) (g1 : PySem.HandSPX.refsVE bm = true) (g2 : findIn K (.ref C) "__setattr__" = some (some (.builtin "object.__setattr__"))) (g3 : subIn K (.ref C) (.type "BaseException") = some true) (g4 : typeIn K (.ref C) = some (.type "type")) (g5 : keepIn K (.ref C) = true)
    (i1 : findIn K (.ref C) "__init__" = some (some (.ref fI))) (i2 : typeIn K (.ref fI) = some (.type "function")) (i3 : findIn K (.ref C) f = some none)
    (l : K.lookup fI = some ⟨oc, od, .func (fnOf "__init__" qual (defArgs st) (defBody st) (defScope st) .none kV doc pm an cdv ct), osl⟩) (c : codeIn K cdv qual = true) (kp : keepIn K (.ref fI) = true)
    (b : ∀ us : List Value, us.length = 2 → bindArgs (fnOf "__init__" qual (defArgs st) (defBody st) (defScope st) .none kV doc pm an cdv ct) ⟨us, []⟩ = pure ([("self" : Str), f].zip us)) (hi : initB st f bn = true)
    (c1 : nsIn K mainGlobals bn = some (some (.ref CB))) (c2 : specialIn K (.ref CB) "__getattribute__" = some (some (.builtin "type.__getattribute__"))) (c3 : readsIn K CB (.type "type") = true) (c4 : findCls K (.ref CB) (.type "type") "__init__" = some (.val (.builtin "ValueError.__init__"))) : Rs1Ok K mg x f :=
  ⟨C, fI, bn, a, mg_of X G a, ⟨⟨_, _, _, _, _, _, _, _, _, _, _, _, _, _, _, g0, g1⟩, g2, g3, g4, g5⟩, i1, i2, i3, ⟨qual, st, _, fun_mk l c kp, b, hi⟩, ⟨CB, mg_of X G c1, c2, c3, c4⟩⟩
end
end WB
namespace WB
open PySem L2
def popV (ρ : Env) (i j : Nat) (xs ys : List D) (d : D) : M Fl := match popAt ys d with
  | some (y, zs) => if xs.length < sizeLine then M.ret (.nx ((ρ.set j (some (.own zs))).set i (some (.own (xs ++ [y]))))) else M.bad
  | none => M.bad
def extV (ρ : Env) (i : Nat) (xs : List D) (d : D) : M Fl := match d.list? with
  | some ys => if xs.length + ys.length ≤ sizeLine then M.ret (.nx (ρ.set i (some (.own (xs ++ ys))))) else M.bad
  | none => M.bad
section
variable (Φ : Tb) (ρ : Env)
@[simp] theorem exec_par3 (i j l : Nat) (a b c : E) : exec Φ (.par3 i j l a b c) ρ = tryM (den Φ a ρ) ρ fun x => tryM (den Φ b ρ) ρ fun y => tryM (den Φ c ρ) ρ fun z => seqM (setI ρ i x) fun ρ' => seqM (setI ρ' j y) fun ρ2 => setI ρ2 l z := rfl
@[simp] theorem exec_ext (i : Nat) (e : E) : exec Φ (.ext i e) ρ = withO (ownV ρ[i]?) fun xs => tryM (den Φ e ρ) ρ (extV ρ i xs) := rfl
@[simp] theorem exec_appPop (i j : Nat) (e : E) : exec Φ (.appPop i j e) ρ = withO (ownV ρ[i]?) fun xs => withO (ownV ρ[j]?) fun ys => tryM (den Φ e ρ) ρ (popV ρ i j xs ys) := by
  show (match ownAt ρ i, ownAt ρ j with
    | some xs, some ys => tryM (den Φ e ρ) ρ (popV ρ i j xs ys)
    | _, _ => M.bad) = _
  rw [ownAt_eq, ownAt_eq]
  cases ownV ρ[i]? with
  | none => rfl
  | some xs => cases ownV ρ[j]? <;> rfl
end
@[simp] theorem extV_own (ρ : Env) (i : Nat) (xs ys : List D) : extV ρ i xs (.own ys) = if xs.length + ys.length ≤ sizeLine then M.ret (.nx (ρ.set i (some (.own (xs ++ ys))))) else M.bad := rfl
theorem erase_map {α β : Type} (f : α → β) : ∀ (l : List α) (n : Nat), (l.map f).eraseIdx n = (l.eraseIdx n).map f
  | [], _ => rfl
  | _ :: _, 0 => rfl
  | x :: l, n + 1 => by simp [erase_map f l n]
theorem sIx_at {n m : Nat} (h : n < m) : seqIndex? (n : Int) m = some n := by
  have e := seqIndex_of (k := (n : Int)) (n := m) (by omega) (by omega)
  rw [e, Int.toNat_natCast]
theorem popAt_at {ys : List D} {n : Nat} {y : D} (h : ys[n]? = some y) (hb : smallIx (n : Int) = true) : popAt ys (.int n) = some (y, ys.eraseIdx n) := by
  have e1 := sIx_at (List.getElem?_eq_some_iff.mp h).1
  simp only [popAt, hb, if_true, e1, h]
theorem n63 {n m : Nat} (h : n < m) (hm : m ≤ sizeLine) : smallIx (n : Int) = true := by
  have sz : sizeLine = 16777216 := rfl
  exact decide_eq_true (by omega)
theorem popV_ok {α : Type} {enc : α → D} {ρ : Env} {i j n : Nat} {xs : List D} {ys : List α} {y : α} (h : ys[n]? = some y) (hx : xs.length < sizeLine) (hy : ys.length ≤ sizeLine) : popV ρ i j xs (ys.map enc) (.int n) = M.ret (.nx ((ρ.set j (some (.own ((ys.eraseIdx n).map enc)))).set i (some (.own (xs ++ [enc y]))))) := by
  have e2 := popAt_at (ys := ys.map enc) (n := n) (y := enc y) (by rw [List.getElem?_map, h]; rfl) (n63 (List.getElem?_eq_some_iff.mp h).1 hy)
  unfold popV
  rw [e2, erase_map]
  dsimp only
  rw [if_pos hx]
theorem Ok_whl {c : Env → M Bool} {f : Env → M Fl} {Q : Fl → Store → Prop} {X : Exn → Store → Prop} (P : Nat → Env → Store → Prop)
    (step : ∀ m ρ S, P m ρ S → Ok (c ρ) S (fun k S' => if k then Ok (f ρ) S' (Lp Q (fun ρ' S'' => ∃ m', m' < m ∧ P m' ρ' S'')) X else Q (.nx ρ) S') (fun x S' => Q (.ex x ρ) S')) :
    ∀ (n m : Nat) (ρ : Env) (S : Store), m < n → P m ρ S → Ok (whlM c f n ρ) S Q X
  | 0, m, ρ, S, hm, h => absurd hm (Nat.not_lt_zero _)
  | n + 1, m, ρ, S, hm, h => by
    have st := step m ρ S h
    rw [Ok_eq] at st ⊢
    unfold OkM at st ⊢
    unfold whlM tryM
    cases e : c ρ S with
    | bad => rw [e] at st; exact st
    | exc x S' => rw [e] at st; exact st
    | ok k S' =>
      rw [e] at st
      cases k with
      | false => exact st
      | true =>
        simp only [if_true] at st ⊢
        rw [Ok_eq] at st
        unfold OkM at st
        cases e2 : f ρ S' with
        | bad => rw [e2] at st; exact st
        | exc x S2 => rw [e2] at st; exact st
        | ok fl S2 =>
          rw [e2] at st
          cases fl with
          | nx ρ' =>
            obtain ⟨m', h1, h2⟩ := st
            have := Ok_whl P step n m' ρ' S2 (by omega) h2
            rw [Ok_eq] at this
            exact this
          | ct ρ' =>
            obtain ⟨m', h1, h2⟩ := st
            have := Ok_whl P step n m' ρ' S2 (by omega) h2
            rw [Ok_eq] at this
            exact this
          | bk ρ' => exact st
          | rt d => exact st
          | ex x ρ' => exact st
/-- a list beside the empty one -/
theorem eq_nilG {α : Type} (enc : α → D) (f : α → PyData) (hp : ∀ x, (enc x).py = some (f x)) (hl : ∀ x, (f x).canLay0 = true) {n : Nat} (hd : ∀ x, (f x).depth ≤ n) (hn : n ≤ 60) (a : D) (l : List α) (ha : a.list? = some (l.map enc)) : eqD a (.own []) = some (decide (l = [])) := by
  have e : a.py = some (.list (l.map f)) := by
    cases a <;> cases ha <;> (show (D.pys (l.map enc)).map PyData.list = _; rw [pys_map enc f hp]; rfl)
  have s1 : SeqAt.shaped (.list (l.map f)) = true := shaped_of (lay_all f hl l) (by
    show PyData.depthAll (l.map f) + 1 ≤ 64
    have := depth_all f hd l
    omega)
  rw [eqD_py (b := .own []) (y := .list []) e rfl s1 rfl (fun s z => by subst z; cases ha)]
  cases l <;> rfl
theorem lead_ints : ∀ (w : List Int) (r : List D), (∀ i r', r ≠ .int i :: r') → leadN (w.map D.int ++ r) = w.length
  | [], r, h => by
    cases r with
    | nil => rfl
    | cons d r => cases d <;> first | rfl | exact absurd rfl (h _ _)
  | i :: w, r, h => by
    show leadN (w.map D.int ++ r) + 1 = w.length + 1
    rw [lead_ints w r h]
theorem keyN_at (w : List Int) (r : List D) : keyN w.length (.tup (w.map D.int ++ r)) = some w := by
  unfold keyN
  simp [ints_map]
theorem keysN_at {α : Type} {key : α → List Int} {rest : α → List D} {n : Nat} : ∀ {l : List α}, (∀ x ∈ l, (key x).length = n) → keysN n (l.map fun x => .tup ((key x).map D.int ++ rest x)) = some (l.map key)
  | [], _ => rfl
  | x :: l, h => by
    have e := keyN_at (key x) (rest x)
    rw [h x List.mem_cons_self] at e
    simp only [List.map_cons, keysN, e, keysN_at (l := l) fun y hy => h y (List.mem_cons_of_mem _ hy)]
theorem sortedD_at {α : Type} {key : α → List Int} {rest : α → List D} {n : Nat} {l : List α} (hn : 1 ≤ n ∨ l.length ≤ 1) (h : ∀ x ∈ l, (key x).length = n) (hr : ∀ x ∈ l, ∀ i r', rest x ≠ .int i :: r') (hd : (l.map key).Nodup ∨ ∀ x ∈ l, rest x = []) :
    sortedD (l.map fun x => .tup ((key x).map D.int ++ rest x)) = some ((sortL (fun a b => HT.lexLt (key a) (key b)) l).map fun x => .tup ((key x).map D.int ++ rest x)) := by
  match l, hn, h, hr, hd with
  | [], _, _, _, _ => rfl
  | [x], _, _, _, _ => rfl
  | x :: y :: r, hn, h, hr, hd =>
    have hn : 1 ≤ n := hn.resolve_right (by simp)
    have e1 : leadN ((key x).map D.int ++ rest x) = n := by rw [lead_ints _ _ (hr x List.mem_cons_self), h x List.mem_cons_self]
    have e2 := keysN_at (rest := rest) h
    show sortN (leadN ((key x).map D.int ++ rest x)) ((x :: y :: r).map fun x => .tup ((key x).map D.int ++ rest x)) = _
    rw [e1]
    unfold sortN
    rw [e2]
    dsimp only
    have hc : 1 ≤ n ∧ (((x :: y :: r).map key).Nodup ∨ ((x :: y :: r).map fun x => D.tup ((key x).map D.int ++ rest x)).all (lenIs n) = true) := ⟨hn, hd.imp id fun z => by
      rw [List.all_eq_true]
      intro d hd
      obtain ⟨u, hu, rfl⟩ := List.mem_map.mp hd
      simp [lenIs, z u hu, h u hu]⟩
    rw [if_pos hc]
    · have ez : ((x :: y :: r).map key).zip ((x :: y :: r).map fun x => D.tup ((key x).map D.int ++ rest x)) = (x :: y :: r).map fun x => (key x, D.tup ((key x).map D.int ++ rest x)) := zip_map2 _ _ _
      rw [ez, ← sortL_map (lt := ltK) (lt' := fun a b => HT.lexLt (key a) (key b)) (fun x => (key x, D.tup ((key x).map D.int ++ rest x))) (fun _ _ => rfl), List.map_map]
      rfl
theorem sorted_ok {d : D} {xs ys : List D} {S : Store} {Q : D → Store → Prop} {X : Exn → Store → Prop} (hs : d.seq? = some xs) (he : sortedD xs = some ys) : Ok (biM .sorted d) S Q X = Q (.own ys) S := by
  have e : biM .sorted d S = .ok (.own ys) S := by
    simp only [biM, hs, Option.bind_some, he]
  rw [Ok_eq]
  unfold OkM
  rw [e]
theorem sortedW {d : Nat} {ws : List (List Int)} (hd : 1 ≤ d ∨ ws.length ≤ 1) (h : ∀ w ∈ ws, w.length = d) : sortedD (ws.map wordTup) = some ((sortL HT.lexLt ws).map wordTup) := by
  have e : wordTup = fun x : List Int => D.tup ((id x).map D.int ++ []) := funext fun w => by simp [wordTup]
  rw [e]
  exact sortedD_at (key := id) (rest := fun _ => []) (l := ws) hd h (fun _ _ _ _ => nofun) (.inr fun _ _ => rfl)
def ltG (a b : Gap) : Bool := HT.lexLt [a.h, a.t, a.p] [b.h, b.t, b.p]
def gapK (g : Gap) : List Int := [g.h, g.t]
theorem sortedG {gs : List Gap} (h : (gs.map gapK).Nodup) : sortedD (gs.map gapD) = some ((sortL ltG gs).map gapD) := by
  have nd : (gs.map fun g => [g.h, g.t, g.p]).Nodup := by
    refine List.Pairwise.map _ ?_ (List.pairwise_map.mp h)
    intro a b hab z
    simp only [List.cons.injEq, and_true] at z
    exact hab (by unfold gapK; rw [z.1, z.2.1])
  exact sortedD_at (key := fun g => [g.h, g.t, g.p]) (rest := fun g => [.tup (g.ws.map wordTup)]) (n := 3) (l := gs) (.inl (by decide)) (fun _ _ => rfl) (fun _ _ _ _ => nofun) (.inl nd)
theorem rise_perm {α : Type} (key : α → List Int) : ∀ {l m : List α}, Rise (l.map key) → Rise (m.map key) → l.Perm m → l = m
  | [], m, _, _, p => (List.Perm.eq_nil p.symm).symm
  | x :: l, [], _, _, p => absurd p.length_eq (by simp)
  | x :: l, y :: m, hl, hm, p => by
    have a := List.pairwise_cons.mp hl
    have b := List.pairwise_cons.mp hm
    have e : x = y := by
      rcases List.mem_cons.mp (p.mem_iff.mp (List.mem_cons_self (a := x) (l := l))) with e | hx
      · exact e
      · rcases List.mem_cons.mp (p.mem_iff.mpr (List.mem_cons_self (a := y) (l := m))) with e | hy
        · exact e.symm
        · have h1 := a.1 (key y) (List.mem_map.mpr ⟨y, hy, rfl⟩)
          have h2 := b.1 (key x) (List.mem_map.mpr ⟨x, hx, rfl⟩)
          have := lexLt_trans h1 h2
          rw [lexLt_irrefl] at this
          cases this
    subst e
    rw [rise_perm key a.2 b.2 p.cons_inv]
theorem sortL_rise {α : Type} {lt : α → α → Bool} {key : α → List Int} (O : SrtO.Swo lt) (hk : ∀ a b, key a ≠ key b → lt b a = false → HT.lexLt (key a) (key b) = true) {l : List α} (nd : (l.map key).Nodup) : Rise ((sortL lt l).map key) := by
  refine List.pairwise_map.mpr ?_
  have p := sortL_perm (lt := lt) l
  have nd2 : ((sortL lt l).map key).Nodup := (p.map key).nodup_iff.mpr nd
  refine ((sortL_srtd O l).and (List.pairwise_map.mp nd2)).imp ?_
  intro a b h
  exact hk a b h.2 h.1
theorem sortW_rise {ws : List (List Int)} (nd : ws.Nodup) : Rise (sortL HT.lexLt ws) := by
  have := sortL_rise (lt := HT.lexLt) (key := id) (l := ws) (swo_key id) (fun a b n h => lexLt_total (Ne.symm n) h) (by simpa using nd)
  simpa using this
theorem sortG_rise {gs : List Gap} (nd : (gs.map gapK).Nodup) : Rise ((sortL ltG gs).map gapK) := by
  refine sortL_rise (lt := ltG) (swo_key fun g : Gap => [g.h, g.t, g.p]) (fun a b n h => ?_) nd
  unfold ltG at h
  unfold gapK at n ⊢
  rw [lex2]
  simp only [HT.lexLt_cons, HT.lexLt_nil_nil] at h
  have n' : ¬ (a.h = b.h ∧ a.t = b.t) := fun z => n (by rw [z.1, z.2])
  by_cases e1 : b.h = a.h
  · rw [if_pos e1] at h
    by_cases e2 : b.t = a.t
    · exact absurd ⟨e1.symm, e2.symm⟩ n'
    · rw [if_neg e2] at h
      have := of_decide_eq_false h
      omega
  · rw [if_neg e1] at h
    have := of_decide_eq_false h
    omega
end WB
namespace WB
open PySem L2

theorem mem_gen {α : Type} [DecidableEq α] {enc : α → D} {f : α → PyData} (hp : ∀ x, (enc x).py = some (f x)) (hl : ∀ x, (f x).canLay0 = true) {n : Nat} (hd : ∀ x, (f x).depth ≤ n) (hn : n ≤ 60) (he : ∀ a b, PyData.eqv (f a) (f b) = decide (a = b)) (x : α) (l : List α) (d : D) (h : d.py = some (.list (l.map f)) ∨ d.py = some (.tuple (l.map f))) : memD (enc x) d = some (decide (x ∈ l)) := by
  have s1 : SeqAt.shaped (f x) = true := shaped_of (hl x) (by have := hd x; omega)
  have dp : PyData.depthAll (l.map f) + 1 ≤ 64 := by
    have := depth_all f hd l
    omega
  have s2 : SeqAt.shaped (.list (l.map f)) = true := shaped_of (lay_all f hl l) dp
  have s3 : SeqAt.shaped (.tuple (l.map f)) = true := shaped_of (lay_all f hl l) dp
  have e : (l.map f).any (fun y => PyData.eqv y (f x)) = decide (x ∈ l) := by
    rw [List.any_map]
    clear h s2 s3 dp
    induction l with
    | nil => rfl
    | cons a r ih =>
      rw [List.any_cons, ih]
      simp only [Function.comp, he]
      by_cases h : a = x
      · simp [h]
      · by_cases h2 : x ∈ r <;> simp [h, h2, Ne.symm h]
  have nk : ∀ ks vs, d ≠ .kd ks vs := fun ks vs z => by subst z; rcases h with h | h <;> cases h
  rw [memD_L nk]
  unfold memL
  rw [hp]
  rcases h with h | h <;> rw [h] <;> simp only [s1, s2, s3, Bool.and_self, if_true, e]
theorem py_lists {α : Type} {enc : α → D} {f : α → PyData} (hp : ∀ x, (enc x).py = some (f x)) (l : List α) : ∀ d : D, d.list? = some (l.map enc) → d.py = some (.list (l.map f)) := fun d hd => by
  cases d <;> cases hd <;> (show (D.pys (l.map enc)).map PyData.list = _; rw [pys_map enc f hp]; rfl)
theorem mem_wordsL (w : List Int) (ws : List (List Int)) (d : D) (h : d.list? = some (ws.map wordTup)) : memD (wordTup w) d = some (decide (w ∈ ws)) := by
  rw [mem_gen py_word word_lay word_depth (by decide) eqv_word w ws d (.inl (py_lists py_word ws d h))]
  congr
theorem eqv_step (a b : Nat × Int × Int) : PyData.eqv (stepP a) (stepP b) = decide (a = b) := by
  obtain ⟨a1, a2, a3⟩ := a
  obtain ⟨b1, b2, b3⟩ := b
  show (((a1 : Int) == b1) && ((a2 == b2) && ((a3 == b3) && true))) = _
  by_cases h1 : a1 = b1
  · by_cases h2 : a2 = b2 <;> by_cases h3 : a3 = b3 <;> simp [h1, h2, h3]
  · have : ((a1 : Int) == b1) = false := by simp; omega
    simp [this, h1]
theorem mem_stepsL (s : Nat × Int × Int) (l : List (Nat × Int × Int)) (d : D) (h : d.list? = some (l.map stepD)) : memD (stepD s) d = some (decide (s ∈ l)) := by
  rw [mem_gen py_step (fun _ => rfl) step_depth (by decide) eqv_step s l d (.inl (py_lists py_step l d h))]
  congr
theorem gap_lay (g : Gap) : (gapP g).canLay0 = true := by
  have := lay_all wordP word_lay g.ws
  simp [gapP, PyData.canLay0, PyData.canLayAll0, this]
theorem bolt_lay (b : Bolt) : (boltP b).canLay0 = true := by
  have := lay_all gapP gap_lay b.gs
  simp [boltP, PyData.canLay0, PyData.canLayAll0, this]
theorem lock_lay (L : List Bolt) : (lockP L).canLay0 = true := lay_all boltP bolt_lay L
theorem eq_lock (L : List Bolt) : eqD (lockD L) (lockD L) = some true := by
  have sh : SeqAt.shaped (lockP L) = true := shaped_of (lock_lay L) (by have := lock_depth L; omega)
  rw [eqD_py (py_lock L) (py_lock L) sh sh (fun s z => by cases z), eqv_self _ (lock_lay L)]

abbrev natD (m : Nat) : D := .int m
/-- a word of places below these counts -/
def WordN (ns : List Nat) (w : List Int) : Prop := w.length = ns.length ∧ ∀ (i : Nat) (x : Int) (n : Nat), w[i]? = some x → ns[i]? = some n → 0 ≤ x ∧ x < n
theorem WordN.snoc {ns : List Nat} {w : List Int} {m : Nat} {x : Int} (h : WordN ns w) (hx : 0 ≤ x ∧ x < m) : WordN (ns ++ [m]) (w ++ [x]) := by
  refine ⟨by simp [h.1], fun i y c h1 h2 => ?_⟩
  by_cases hi : i < w.length
  · rw [List.getElem?_append_left hi] at h1
    rw [List.getElem?_append_left (by rw [← h.1]; exact hi)] at h2
    exact h.2 i y c h1 h2
  · have hl := h.1
    rw [List.getElem?_append_right (by omega)] at h1
    rw [List.getElem?_append_right (by omega)] at h2
    have e : i - w.length = 0 := by
      have := (List.getElem?_eq_some_iff.mp h1).1
      simp at this
      omega
    have e' : i - ns.length = 0 := by omega
    rw [e] at h1
    rw [e'] at h2
    cases h1
    cases h2
    exact hx
theorem WordN.take {ns : List Nat} {w : List Int} (h : WordN ns w) (j : Nat) : WordN (ns.take j) (w.take j) := by
  refine ⟨by simp [h.1], fun i x n h1 h2 => ?_⟩
  rw [List.getElem?_take] at h1 h2
  by_cases hi : i < j
  · rw [if_pos hi] at h1 h2
    exact h.2 i x n h1 h2
  · rw [if_neg hi] at h1; cases h1
theorem WordN.wordB {ns : List Nat} {w : List Int} {L : List Bolt} (h : WordN ns w) (e : L.map (·.n) = ns.map fun (n : Nat) => (n : Int)) : wordB L w = true := by
  have hl : L.length = ns.length := by simpa using congrArg List.length e
  rw [wordB_iff]
  refine ⟨by rw [h.1, hl], fun i x b h1 h2 => ?_⟩
  have hi : i < ns.length := by rw [← hl]; exact (List.getElem?_eq_some_iff.mp h2).1
  have e2 : (L.map (·.n))[i]? = some b.n := by rw [List.getElem?_map, h2]; rfl
  rw [e, List.getElem?_map, List.getElem?_eq_getElem hi] at e2
  have e3 : ((ns[i] : Nat) : Int) = b.n := Option.some.inj e2
  have := h.2 i x ns[i] h1 (List.getElem?_eq_getElem hi)
  omega

structure GapsS (N : Nat) (words : List (List Int)) (gs : List Gap) : Prop where
  at_ : ∀ g ∈ gs, (0 ≤ g.h ∧ g.h < N) ∧ (0 ≤ g.t ∧ g.t < N) ∧ g.h ≠ g.t ∧ 1 ≤ g.p ∧ g.p ≤ 1000000 ∧ Rise g.ws ∧ ∀ w ∈ g.ws, w ∈ words
  few : (gs.map fun g => g.ws.length).sum ≤ 8
  nd : (gs.map gapK).Nodup
theorem GapsS.perm {N : Nat} {words : List (List Int)} {gs hs : List Gap} (h : GapsS N words gs) (p : hs.Perm gs) : GapsS N words hs := by
  refine ⟨fun g hg => h.at_ g (p.mem_iff.mp hg), ?_, (p.map gapK).nodup_iff.mpr h.nd⟩
  rw [(p.map fun g => g.ws.length).sum_nat]
  exact h.few
theorem GapsS.len {N : Nat} {words : List (List Int)} {gs : List Gap} (h : GapsS N words gs) (hN : N ≤ 4) : gs.length ≤ 12 := by
  have := sub_len (m := pairs12) h.nd fun v hv => by
    obtain ⟨g, hg, rfl⟩ := List.mem_map.mp hv
    obtain ⟨h1, h2, h3, _⟩ := h.at_ g hg
    exact mem12 ⟨h1.1, by omega⟩ ⟨h2.1, by omega⟩ h3
  rw [List.length_map] at this
  exact this
theorem GapsS.bolt {N : Nat} {words : List (List Int)} {gs : List Gap} (h : GapsS N words gs) (hr : Rise (gs.map gapK)) (h2 : 2 ≤ N) (hN : N ≤ 4) {L : List Bolt} (hw : ∀ w ∈ words, wordB L w = true) : boltB L ⟨N, gs⟩ = true := by
  have l12 := h.len hN
  unfold boltB
  simp only [Bool.and_eq_true, decide_eq_true_eq, List.all_eq_true]
  refine ⟨⟨⟨⟨by omega, by omega⟩, l12⟩, fun g hg => ?_⟩, riseB_of hr, h.few⟩
  obtain ⟨a1, a2, a3, a4, a5, a6, a7⟩ := h.at_ g hg
  unfold gapB
  simp only [Bool.and_eq_true, decide_eq_true_eq, List.all_eq_true, Bool.not_eq_true', decide_eq_false_iff_not]
  exact ⟨⟨⟨⟨a1.1, by omega⟩, ⟨a2.1, by omega⟩, a3⟩, a4, a5⟩, fun w hw' => hw w (a7 w hw'), riseB_of a6⟩
/-- bolts drawn so far -/
structure BoltsS (ns : List Nat) (bases : List (List Int)) (more : Int) (B : List Bolt) : Prop where
  ns : B.map (·.n) = (ns.take B.length).map fun (n : Nat) => (n : Int)
  bolts : ∀ k b, B[k]? = some b → boltB (B.take k) b = true
  few : ∃ gen : List (List Int), gen.length + more ≤ 8 ∧ (∀ w ∈ bases, w ∈ gen) ∧ ∀ k b, B[k]? = Option.some b → ∀ w ∈ waysF b, ∃ g ∈ gen, k ≤ g.length ∧ w = g.take k
theorem BoltsS.snoc {ns : List Nat} {bases : List (List Int)} {more : Int} {B : List Bolt} (h : BoltsS ns bases more B) {N : Nat} (hN : ns[B.length]? = some N) (h2 : 2 ≤ N) (h4 : N ≤ 4) (hb : ∀ w ∈ bases, WordN ns w) {extra : List (List Int)} {more' : Int} (hm : more' + extra.length ≤ more) (he : ∀ w ∈ extra, WordN (ns.take B.length) w) {words : List (List Int)} (hx : ∀ w ∈ words, (∃ b ∈ bases, w = b.take B.length) ∨ w ∈ extra) {gs : List Gap} (hg : GapsS N words gs) (hr : Rise (gs.map gapK)) : BoltsS ns bases more' (B ++ [⟨N, gs⟩]) := by
  obtain ⟨gen, g1, g2, g3⟩ := h.few
  have hl : B.length < ns.length := (List.getElem?_eq_some_iff.mp hN).1
  have hw : ∀ w ∈ words, wordB B w = true := fun w hw => by
    rcases hx w hw with ⟨b, hb', rfl⟩ | hw
    · exact ((hb b hb').take _).wordB h.ns
    · exact (he w hw).wordB h.ns
  have bo := hg.bolt hr h2 h4 hw
  refine ⟨?_, fun k b hk => ?_, gen ++ extra, by rw [List.length_append]; omega, fun w hw => List.mem_append_left _ (g2 w hw), fun k b hk w hw' => ?_⟩
  · rw [List.map_append, h.ns, List.length_append, List.length_singleton, List.take_add_one, hN]
    simp
  · by_cases hi : k < B.length
    · rw [List.getElem?_append_left hi] at hk
      rw [List.take_append_of_le_length (by omega)]
      exact h.bolts k b hk
    · rw [List.getElem?_append_right (by omega)] at hk
      have e : k - B.length = 0 := by
        have := (List.getElem?_eq_some_iff.mp hk).1
        simp at this
        omega
      obtain rfl : k = B.length := by omega
      rw [e] at hk
      cases hk
      rw [List.take_left']
      · exact bo
      · rfl
  · by_cases hi : k < B.length
    · rw [List.getElem?_append_left hi] at hk
      obtain ⟨g, q1, q2⟩ := g3 k b hk w hw'
      exact ⟨g, List.mem_append_left _ q1, q2⟩
    · rw [List.getElem?_append_right (by omega)] at hk
      have e : k - B.length = 0 := by
        have := (List.getElem?_eq_some_iff.mp hk).1
        simp at this
        omega
      obtain rfl : k = B.length := by omega
      rw [e] at hk
      cases hk
      unfold waysF at hw'
      obtain ⟨g, hg', hw'⟩ := List.mem_flatMap.mp hw'
      have hs := (hg.at_ g hg').2.2.2.2.2.2 w hw'
      rcases hx w hs with ⟨b, hb', rfl⟩ | hw
      · exact ⟨b, List.mem_append_left _ (g2 b hb'), by rw [(hb b hb').1]; omega, rfl⟩
      · have l := (he w hw).1
        rw [List.length_take] at l
        exact ⟨w, List.mem_append_right _ hw, by omega, by rw [List.take_of_length_le (by omega)]⟩
theorem BoltsS.lock {ns : List Nat} {bases : List (List Int)} {more : Int} {B : List Bolt} (h : BoltsS ns bases more B) (h0 : 0 ≤ more) (h1 : 1 ≤ B.length) (h60 : B.length ≤ 60) : LockOk B := by
  obtain ⟨gen, g1, g2, g3⟩ := h.few
  exact ⟨h1, h60, h.bolts, gen, by omega, g3⟩

theorem riseB_rise : ∀ {l : List (List Int)}, riseB l = true → Rise l
  | [], _ => List.Pairwise.nil
  | [_], _ => List.pairwise_singleton _ _
  | a :: b :: r, h => by
    have h : (HT.lexLt a b && riseB (b :: r)) = true := h
    rw [Bool.and_eq_true] at h
    have ih := riseB_rise h.2
    refine List.pairwise_cons.mpr ⟨fun c hc => ?_, ih⟩
    rcases List.mem_cons.mp hc with rfl | hc
    · exact h.1
    · exact lexLt_trans h.1 ((List.pairwise_cons.mp ih).1 c hc)
theorem boltB_rise {L : List Bolt} {b : Bolt} (h : boltB L b = true) : Rise (b.gs.map gapK) := by
  unfold boltB at h
  simp only [Bool.and_eq_true] at h
  exact riseB_rise h.2.1
structure GapOk (L : List Bolt) (n : Int) (g : Gap) : Prop where
  h : 0 ≤ g.h ∧ g.h < n
  t : 0 ≤ g.t ∧ g.t < n
  ne : g.h ≠ g.t
  p : 1 ≤ g.p ∧ g.p ≤ 1000000
  ws : ∀ w ∈ g.ws, wordB L w = true
  rise : Rise g.ws
theorem gapB_ok {L : List Bolt} {n : Int} {g : Gap} : gapB L n g = true ↔ GapOk L n g := by
  unfold gapB
  simp only [Bool.and_eq_true, decide_eq_true_eq, List.all_eq_true, Bool.not_eq_true', decide_eq_false_iff_not]
  constructor
  · intro q
    exact ⟨by omega, by omega, by omega, by omega, q.2.1, riseB_rise q.2.2⟩
  · intro q
    have a := q.h
    have b := q.t
    have c := q.ne
    have d := q.p
    exact ⟨⟨⟨⟨a.1, by omega⟩, ⟨b.1, by omega⟩, c⟩, d⟩, q.ws, riseB_of q.rise⟩
theorem boltB_gap {L : List Bolt} {b : Bolt} (h : boltB L b = true) {g : Gap} (hg : g ∈ b.gs) : GapOk L b.n g := by
  unfold boltB at h
  simp only [Bool.and_eq_true, List.all_eq_true] at h
  exact gapB_ok.mp (h.1.2 g hg)
theorem boltB_sum {L : List Bolt} {b : Bolt} (h : boltB L b = true) : (b.gs.map fun g => g.ws.length).sum ≤ 8 := by
  unfold boltB at h
  simp only [Bool.and_eq_true, decide_eq_true_eq] at h
  exact h.2.2
theorem boltB_mk {L : List Bolt} {b : Bolt} (h1 : 2 ≤ b.n ∧ b.n ≤ 4) (h2 : ∀ g ∈ b.gs, GapOk L b.n g) (h3 : Rise (b.gs.map gapK)) (h4 : (b.gs.map fun g => g.ws.length).sum ≤ 8) : boltB L b = true := by
  have l12 : b.gs.length ≤ 12 := by
    have := sub_len (m := pairs12) h3.nodup fun v hv => by
      obtain ⟨g, hg, rfl⟩ := List.mem_map.mp hv
      have q := h2 g hg
      have a := q.h
      have c := q.t
      exact mem12 ⟨a.1, by omega⟩ ⟨c.1, by omega⟩ q.ne
    rw [List.length_map] at this
    exact this
  unfold boltB
  simp only [Bool.and_eq_true, decide_eq_true_eq, List.all_eq_true]
  exact ⟨⟨⟨h1, l12⟩, fun g hg => gapB_ok.mpr (h2 g hg)⟩, riseB_of h3, h4⟩
theorem wordB_n {L M : List Bolt} (h : L.map (·.n) = M.map (·.n)) (w : List Int) : wordB L w = wordB M w := by
  have hl : L.length = M.length := by simpa using congrArg List.length h
  have one : ∀ {L M : List Bolt}, L.map (·.n) = M.map (·.n) → wordB L w = true → wordB M w = true := fun {L M} h q => by
    have hl : L.length = M.length := by simpa using congrArg List.length h
    rw [wordB_iff] at *
    refine ⟨q.1.trans hl, fun i x b h1 h2 => ?_⟩
    have hi : i < L.length := by rw [hl]; exact (List.getElem?_eq_some_iff.mp h2).1
    have e : (L.map (·.n))[i]? = (M.map (·.n))[i]? := by rw [h]
    rw [List.getElem?_map, List.getElem?_map, h2, List.getElem?_eq_getElem hi] at e
    have e2 : L[i].n = b.n := Option.some.inj e
    rw [← e2]
    exact q.2 i x L[i] h1 (List.getElem?_eq_getElem hi)
  exact Bool.eq_iff_iff.mpr ⟨one h, one h.symm⟩
theorem sortW_same {ws : List (List Int)} (h : Rise ws) : sortL HT.lexLt ws = ws :=
  rise_perm id (by simpa using sortW_rise h.nodup) (by simpa using h) (sortL_perm ws)
/-- a gap with its ways in order -/
def normG (g : Gap) : Gap := ⟨g.h, g.t, g.p, sortL HT.lexLt g.ws⟩
theorem normG_same {g : Gap} (h : Rise g.ws) : normG g = g := by
  unfold normG
  rw [sortW_same h]
theorem map_normG {gs : List Gap} (h : ∀ g ∈ gs, Rise g.ws) : gs.map normG = gs := by
  rw [List.map_congr_left fun g hg => normG_same (h g hg)]
  simp
theorem sortG_same {gs : List Gap} (h : Rise (gs.map gapK)) : sortL ltG gs = gs :=
  rise_perm gapK (sortG_rise h.nodup) h (sortL_perm gs)

theorem mem_stepsF {L : List Bolt} {st : List Int} {s : Nat × Int × Int} : s ∈ stepsF L st ↔ ∃ b, L[s.1]? = some b ∧ ∃ g ∈ b.gs, st[s.1]? = some g.h ∧ st.take s.1 ∈ g.ws ∧ s.2.1 = g.t ∧ s.2.2 = g.p := by
  unfold stepsF
  rw [List.mem_flatMap]
  constructor
  · rintro ⟨p, hp, hs⟩
    unfold stepsAt at hs
    obtain ⟨g, hg, rfl⟩ := List.mem_map.mp hs
    obtain ⟨hg, hb⟩ := List.mem_filter.mp hg
    unfold stepB at hb
    rw [Bool.and_eq_true, decide_eq_true_eq, decide_eq_true_eq] at hb
    exact ⟨p.1, zip_mem hp, g, hg, hb.1, hb.2, rfl, rfl⟩
  · rintro ⟨b, hb, g, hg, h1, h2, h3, h4⟩
    refine ⟨(b, s.1), ?_, ?_⟩
    · rw [List.mem_iff_getElem?]
      exact ⟨s.1, by rw [List.getElem?_zipIdx, hb]; simp⟩
    · unfold stepsAt
      refine List.mem_map.mpr ⟨g, List.mem_filter.mpr ⟨hg, ?_⟩, ?_⟩
      · unfold stepB
        simp [h1, h2]
      · obtain ⟨a, c, d⟩ := s
        simp at h3 h4 ⊢
        exact ⟨h3.symm, h4.symm⟩

def flipG (g : Gap) : Gap := ⟨g.t, g.h, g.p, g.ws⟩
def turnB (b : Bolt) : Bolt := ⟨b.n, sortL ltG (b.gs.map flipG)⟩
def turnL (L : List Bolt) : List Bolt := L.map turnB
theorem flip_key {gs : List Gap} (h : (gs.map gapK).Nodup) : ((gs.map flipG).map gapK).Nodup := by
  rw [List.map_map]
  have h := List.pairwise_map.mp h
  refine List.pairwise_map.mpr (h.imp fun {a b} n z => n ?_)
  simp [gapK, flipG] at z ⊢
  exact ⟨z.2, z.1⟩
theorem turnB_turn {b : Bolt} (h : Rise (b.gs.map gapK)) : turnB (turnB b) = b := by
  unfold turnB
  have nd := flip_key h.nodup
  have p1 : (sortL ltG (b.gs.map flipG)).Perm (b.gs.map flipG) := sortL_perm _
  have p2 : ((sortL ltG (b.gs.map flipG)).map flipG).Perm b.gs := by
    refine (p1.map flipG).trans (List.Perm.of_eq ?_)
    rw [List.map_map]
    exact List.map_id _
  have nd2 : (((sortL ltG (b.gs.map flipG)).map flipG).map gapK).Nodup := (p2.map gapK).nodup_iff.mpr h.nodup
  have e := rise_perm gapK (sortG_rise nd2) h ((sortL_perm _).trans p2)
  simp only [e]
theorem turnB_n (b : Bolt) : (turnB b).n = b.n := rfl
theorem turnB_mem {b : Bolt} {g : Gap} : g ∈ (turnB b).gs ↔ ∃ g' ∈ b.gs, g = flipG g' := by
  unfold turnB
  simp only
  rw [(sortL_perm (lt := ltG) (b.gs.map flipG)).mem_iff, List.mem_map]
  exact ⟨fun ⟨a, h, e⟩ => ⟨a, h, e.symm⟩, fun ⟨a, h, e⟩ => ⟨a, h, e.symm⟩⟩
theorem turnL_ns (L : List Bolt) : (turnL L).map (·.n) = L.map (·.n) := by
  unfold turnL
  rw [List.map_map]
  rfl
theorem turnL_take (L : List Bolt) (k : Nat) : (turnL L).take k = turnL (L.take k) := by
  unfold turnL
  rw [List.map_take]
theorem turnB_ok {L : List Bolt} {b : Bolt} (h : boltB L b = true) : boltB L (turnB b) = true := by
  have nd := flip_key (boltB_rise h).nodup
  refine boltB_mk (by have := boltB_n h; exact this) (fun g hg => ?_) (sortG_rise nd) ?_
  · obtain ⟨g', hg', rfl⟩ := turnB_mem.mp hg
    have q := boltB_gap h hg'
    exact ⟨q.t, q.h, q.ne.symm, q.p, q.ws, q.rise⟩
  · have p : ((turnB b).gs.map fun g => g.ws.length).Perm (b.gs.map fun g => g.ws.length) := by
      refine ((sortL_perm (lt := ltG) (b.gs.map flipG)).map _).trans (List.Perm.of_eq ?_)
      rw [List.map_map]
      rfl
    rw [p.sum_nat]
    exact boltB_sum h
theorem boltB_ns {L M : List Bolt} (h : L.map (·.n) = M.map (·.n)) {b : Bolt} (q : boltB L b = true) : boltB M b = true :=
  boltB_mk (boltB_n q) (fun g hg => let r := boltB_gap q hg; ⟨r.h, r.t, r.ne, r.p, fun w hw => by rw [← wordB_n h]; exact r.ws w hw, r.rise⟩) (boltB_rise q) (boltB_sum q)
theorem turnB_ways {b : Bolt} {w : List Int} : w ∈ waysF (turnB b) ↔ w ∈ waysF b := by
  unfold waysF
  rw [List.mem_flatMap, List.mem_flatMap]
  constructor
  · rintro ⟨g, hg, hw⟩
    obtain ⟨g', hg', rfl⟩ := turnB_mem.mp hg
    exact ⟨g', hg', hw⟩
  · rintro ⟨g, hg, hw⟩
    exact ⟨flipG g, turnB_mem.mpr ⟨g, hg, rfl⟩, hw⟩
theorem turnL_at {L : List Bolt} {k : Nat} {b : Bolt} (h : (turnL L)[k]? = some b) : ∃ c, L[k]? = some c ∧ b = turnB c := by
  unfold turnL at h
  rw [List.getElem?_map] at h
  cases e : L[k]? with
  | none => rw [e] at h; cases h
  | some c => rw [e] at h; exact ⟨c, rfl, (Option.some.inj h).symm⟩
theorem turnL_ok {L : List Bolt} (ok : LockOk L) : LockOk (turnL L) := by
  have hl : (turnL L).length = L.length := by unfold turnL; rw [List.length_map]
  obtain ⟨gen, few, from_⟩ := ok.few
  refine ⟨by rw [hl]; exact ok.least, by rw [hl]; exact ok.most, fun k b hk => ?_, gen, few, fun k b hk w hw => ?_⟩
  · obtain ⟨c, hc, rfl⟩ := turnL_at hk
    refine boltB_ns (L := L.take k) ?_ (turnB_ok (ok.bolts k c hc))
    rw [turnL_take, turnL_ns]
  · obtain ⟨c, hc, rfl⟩ := turnL_at hk
    exact from_ k c hc w (turnB_ways.mp hw)
theorem turnL_turn {L : List Bolt} (ok : LockOk L) : turnL (turnL L) = L := by
  unfold turnL
  rw [List.map_map]
  refine List.ext_getElem? fun i => ?_
  rw [List.getElem?_map]
  cases e : L[i]? with
  | none => rfl
  | some b =>
    show some (turnB (turnB b)) = _
    rw [turnB_turn (boltB_rise (ok.bolts i b e))]
theorem turnL_word {L : List Bolt} {w : List Int} : wordB (turnL L) w = wordB L w := wordB_n (turnL_ns L) w
/-- a step that can be done can be gone back in the lock turned about -/
theorem step_back {L : List Bolt} {st : List Int} {s : Nat × Int × Int} (hs : s ∈ stepsF L st) : ∃ x, st[s.1]? = some x ∧ (s.1, x, s.2.2) ∈ stepsF (turnL L) (st.set s.1 s.2.1) := by
  obtain ⟨b, hb, g, hg, h1, h2, h3, h4⟩ := mem_stepsF.mp hs
  refine ⟨g.h, h1, mem_stepsF.mpr ⟨turnB b, ?_, flipG g, turnB_mem.mpr ⟨g, hg, rfl⟩, ?_, ?_, rfl, h4⟩⟩
  · show (turnL L)[s.1]? = _
    unfold turnL
    rw [List.getElem?_map, hb]
    rfl
  · have hl := (List.getElem?_eq_some_iff.mp h1).1
    show (st.set s.1 s.2.1)[s.1]? = some g.t
    rw [List.getElem?_set_self hl, h3]
  · show (st.set s.1 s.2.1).take s.1 ∈ g.ws
    rw [List.take_set_of_le (Nat.le_refl _)]
    exact h2
theorem step_in {L : List Bolt} (ok : LockOk L) {st : List Int} (hst : wordB L st = true) {s : Nat × Int × Int} (hs : s ∈ stepsF L st) : wordB L (st.set s.1 s.2.1) = true := by
  obtain ⟨b, hb, g, hg, h1, h2, h3, h4⟩ := mem_stepsF.mp hs
  have q := boltB_gap (ok.bolts _ _ hb) hg
  rw [wordB_iff] at *
  refine ⟨by rw [List.length_set]; exact hst.1, fun i x c e1 e2 => ?_⟩
  by_cases hi : s.1 = i
  · subst hi
    rw [List.getElem?_set_self (List.getElem?_eq_some_iff.mp h1).1] at e1
    rw [hb] at e2
    cases e1
    cases e2
    have := q.t
    omega
  · rw [List.getElem?_set_ne hi] at e1
    exact hst.2 i x c e1 e2
end WB
namespace WB
open PySem L2

/-- a thing of any kind that is data -/
def anyD : D → Bool
  | .non | .bl _ | .int _ | .str _ | .tup _ | .lst _ | .dct _ => true
  | _ => false
def dTup : D → Bool
  | .tup _ => true
  | _ => false
def dLst : D → Bool
  | .lst _ => true
  | _ => false
def dBl : D → Bool
  | .bl _ => true
  | _ => false
def dStr : D → Bool
  | .str _ => true
  | _ => false
def dIntB : D → Bool
  | .int _ | .bl _ => true
  | _ => false
section
variable {d : D}
@[simp] theorem ldV_any (h : anyD d = true) : ldV (some (some d)) = M.ret d := by cases d <;> first | rfl | cases h
@[simp] theorem hand_any (h : anyD d = true) : handM d = M.ret d := by cases d <;> first | rfl | cases h
@[simp] theorem retV_any (h : anyD d = true) : retV d = M.ret (.rt d) := by cases d <;> first | rfl | cases h
@[simp] theorem setI_any (ρ : Env) (j : Nat) (h : anyD d = true) : setI ρ j d = if j < ρ.length then M.ret (.nx (ρ.set j (some d))) else M.bad := by cases d <;> first | rfl | cases h
@[simp] theorem isi_tuple_any (h : anyD d = true) : isiD .tuple d = some (dTup d) := by cases d <;> first | rfl | cases h
@[simp] theorem isi_list_any (h : anyD d = true) : isiD .list d = some (dLst d) := by cases d <;> first | rfl | cases h
@[simp] theorem isi_int_any (h : anyD d = true) : isiD .int d = some (dIntB d) := by cases d <;> first | rfl | cases h
@[simp] theorem isi_bool_any (h : anyD d = true) : isiD .bool d = some (dBl d) := by cases d <;> first | rfl | cases h
@[simp] theorem isi_str_any (h : anyD d = true) : isiD .str d = some (dStr d) := by cases d <;> first | rfl | cases h
@[simp] theorem isi_tl_any (h : anyD d = true) : isiD .tupleList d = some (dTup d || dLst d) := by cases d <;> first | rfl | cases h
end
@[simp] theorem any_int (i : Int) : anyD (.int i) = true := rfl
@[simp] theorem any_non : anyD .non = true := rfl
@[simp] theorem any_bl (b : Bool) : anyD (.bl b) = true := rfl
@[simp] theorem any_str (x : Str) : anyD (.str x) = true := rfl
@[simp] theorem any_tup (xs : List D) : anyD (.tup xs) = true := rfl
@[simp] theorem any_lst (xs : List D) : anyD (.lst xs) = true := rfl
@[simp] theorem any_dct (kvs : List (Int × Int)) : anyD (.dct kvs) = true := rfl

@[simp] theorem ldV_dct (kvs : List (Int × Int)) : ldV (some (some (.dct kvs))) = M.ret (.dct kvs) := rfl
@[simp] theorem retV_dct (kvs : List (Int × Int)) : retV (.dct kvs) = M.ret (.rt (.dct kvs)) := rfl
@[simp] theorem setI_dct (ρ : Env) (j : Nat) (kvs : List (Int × Int)) : setI ρ j (.dct kvs) = if j < ρ.length then M.ret (.nx (ρ.set j (some (.dct kvs)))) else M.bad := rfl
@[simp] theorem isi_int_dct (kvs : List (Int × Int)) : isiD .int (.dct kvs) = some false := rfl
@[simp] theorem isi_bool_dct (kvs : List (Int × Int)) : isiD .bool (.dct kvs) = some false := rfl
@[simp] theorem isi_str_dct (kvs : List (Int × Int)) : isiD .str (.dct kvs) = some false := rfl
@[simp] theorem isi_tuple_dct (kvs : List (Int × Int)) : isiD .tuple (.dct kvs) = some false := rfl
@[simp] theorem isi_list_dct (kvs : List (Int × Int)) : isiD .list (.dct kvs) = some false := rfl
@[simp] theorem isi_dict_dct (kvs : List (Int × Int)) : isiD .dict (.dct kvs) = some true := rfl
@[simp] theorem isi_tl_tup (xs : List D) : isiD .tupleList (.tup xs) = some true := rfl
@[simp] theorem isi_tl_lst (xs : List D) : isiD .tupleList (.lst xs) = some true := rfl
@[simp] theorem isi_tl_int (i : Int) : isiD .tupleList (.int i) = some false := rfl
@[simp] theorem isi_tl_non : isiD .tupleList .non = some false := rfl
structure SR (p : PyData) (n : Nat) : Prop where
  sh : p.showable = true
  ln : p.shown.length ≤ n
theorem SB.sr {p : PyData} {n : Nat} (h : SB p n) : SR p n := ⟨h.sh, h.ln⟩
theorem SR.mono {p : PyData} {n m : Nat} (h : SR p n) (l : n ≤ m) : SR p m := ⟨h.sh, Nat.le_trans h.ln l⟩
theorem SR_all {n : Nat} : ∀ {xs : List PyData}, (∀ x ∈ xs, SR x n) → PyData.showableAll xs = true ∧ ((PyData.shownAll xs).map (·.length)).sum ≤ n * xs.length ∧ (PyData.shownAll xs).length = xs.length
  | [], _ => ⟨rfl, Nat.zero_le _, rfl⟩
  | x :: r, h => by
    have hx := h x List.mem_cons_self
    obtain ⟨a, c, d⟩ := SR_all fun y hy => h y (List.mem_cons_of_mem x hy)
    refine ⟨?_, ?_, ?_⟩
    · show (x.showable && PyData.showableAll r) = true
      rw [hx.sh, a]; rfl
    · show (x.shown.length + ((PyData.shownAll r).map (·.length)).sum) ≤ n * (r.length + 1)
      have := hx.ln
      rw [Nat.mul_add]
      omega
    · show (PyData.shownAll r).length + 1 = r.length + 1
      rw [d]
theorem SR_tuple {n m : Nat} {xs : List PyData} (h : ∀ x ∈ xs, SR x n) (hm : xs.length ≤ m) : SR (.tuple xs) ((n + 2) * m + 3) := by
  obtain ⟨a, c, d⟩ := SR_all h
  refine ⟨a, ?_⟩
  show (tupleText (PyData.shownAll xs)).length ≤ _
  have := tupleText_len_le (PyData.shownAll xs)
  rw [d] at this
  have h2 := Nat.mul_le_mul_left (n + 2) hm
  rw [Nat.add_mul] at h2
  omega
theorem SR_list {n m : Nat} {xs : List PyData} (h : ∀ x ∈ xs, SR x n) (hm : xs.length ≤ m) : SR (.list xs) ((n + 2) * m + 3) := by
  obtain ⟨a, c, d⟩ := SR_all h
  refine ⟨a, ?_⟩
  show (listText (PyData.shownAll xs)).length ≤ _
  have := listText_len_le (PyData.shownAll xs)
  rw [d] at this
  have h2 := Nat.mul_le_mul_left (n + 2) hm
  rw [Nat.add_mul] at h2
  omega
/-- d is written as p: as data, or as data with dicts -/
def Wr (d : D) (p : PyData) : Prop := (d.py = some p ∧ p.hasDict = false) ∨ (d.py = none ∧ d.pyR = some p)
theorem repr_any {d : D} {p : PyData} {n : Nat} {S : Store} {Q : D → Store → Prop} {X : Exn → Store → Prop} (hp : Wr d p) (sb : SR p n) (hn : n ≤ sizeLine) (hd : p.depth ≤ 60) : Ok (biM .repr d) S Q X = Q (.str p.shown) S := by
  rcases hp with ⟨h1, h2⟩ | ⟨h1, h2⟩
  · exact repr_ok h1 ⟨sb.sh, h2, sb.ln⟩ hn hd
  · have e : biM .repr d S = .ok (.str p.shown) S := by
      have l : p.shown.length ≤ sizeLine := Nat.le_trans sb.ln hn
      have e1 : biM .repr d S = (match d.py with | some p => if p.showable && !p.hasDict && decide (p.depth ≤ 60) && decide (p.shown.length ≤ sizeLine) then .ok (.str p.shown) S else .bad | none => match d.pyR with | some p => if p.showable && decide (p.depth ≤ 60) && decide (p.shown.length ≤ sizeLine) then .ok (.str p.shown) S else .bad | none => .bad) := by cases d <;> rfl
      rw [e1, h1, h2]
      simp only [sb.sh, hd, l, decide_true, Bool.and_self, if_true]
    rw [Ok_eq]
    unfold OkM
    rw [e]

def wholeD (lo hi : Int) : D → Bool
  | .int i => decide (lo ≤ i) && decide (i ≤ hi)
  | _ => false
/-- at place k stands a place of the bolt there -/
def wAt (L : List Bolt) (xs : List D) (k : Nat) : Bool := match xs[k]?, L[k]? with
  | some x, some b => wholeD 0 (b.n - 1) x
  | _, _ => true
/-- or nothing -/
def oAt (L : List Bolt) (xs : List D) (k : Nat) : Bool := match xs[k]?, L[k]? with
  | some x, some b => x.isNon || wholeD 0 (b.n - 1) x
  | _, _ => true
def stD (L : List Bolt) : D → Bool
  | .tup xs => decide (xs.length = L.length) && (List.range L.length).all (wAt L xs)
  | _ => false
def wiD (L : List Bolt) : D → Bool
  | .tup xs => decide (xs.length = L.length) && (List.range L.length).all (oAt L xs)
  | _ => false
theorem zip_all {α β : Type} (p : α × β → Bool) {xs : List α} {ys : List β} (h : xs.length = ys.length) : (xs.zip ys).all p = (List.range ys.length).all fun k => match xs[k]?, ys[k]? with | some x, some y => p (x, y) | _, _ => true := by
  rw [Bool.eq_iff_iff, List.all_eq_true, List.all_eq_true]
  constructor
  · intro H k hk
    have hk := List.mem_range.mp hk
    rw [List.getElem?_eq_getElem (by omega), List.getElem?_eq_getElem hk]
    exact H _ (List.mem_iff_getElem.mpr ⟨k, by simp; omega, by simp⟩)
  · intro H ⟨x, y⟩ hm
    obtain ⟨k, hk, e⟩ := List.mem_iff_getElem.mp hm
    simp only [List.length_zip] at hk
    simp only [List.getElem_zip, Prod.mk.injEq] at e
    have := H k (List.mem_range.mpr (by omega))
    rw [List.getElem?_eq_getElem (by omega), List.getElem?_eq_getElem (by omega)] at this
    rw [← e.1, ← e.2]
    exact this
theorem st_zip {L : List Bolt} {xs : List D} (h : xs.length = L.length) : ((xs.zip L).all fun p : D × Bolt => wholeD 0 (p.2.n - 1) p.1) = (List.range L.length).all (wAt L xs) := by
  rw [zip_all _ h]
  congr 1
  funext k
  unfold wAt
  cases xs[k]? <;> cases L[k]? <;> rfl
theorem wi_zip {L : List Bolt} {xs : List D} (h : xs.length = L.length) : ((xs.zip L).all fun p : D × Bolt => p.1.isNon || wholeD 0 (p.2.n - 1) p.1) = (List.range L.length).all (oAt L xs) := by
  rw [zip_all _ h]
  congr 1
  funext k
  unfold oAt
  cases xs[k]? <;> cases L[k]? <;> rfl
def nAt (xs : List D) (k : Nat) : Bool := match xs[k]? with
  | some x => x.isNon
  | none => false
theorem filt_nil (p : Nat → Bool) (l : List Nat) : decide (l.filter (fun k => !p k) = []) = l.all p := by
  rw [Bool.eq_iff_iff, decide_eq_true_eq, List.filter_eq_nil_iff, List.all_eq_true]
  constructor
  · intro h k hk
    have := h k hk
    cases e : p k with
    | true => rfl
    | false => rw [e] at this; exact absurd rfl this
  · intro h k hk
    rw [h k hk]
    decide
theorem fm_filter {α β : Type} (p : α → Bool) (f : α → β) : ∀ l : List α, l.filterMap (fun k => if p k = true then none else some (f k)) = (l.filter fun k => !p k).map f
  | [] => rfl
  | a :: l => by
    by_cases h : p a = true
    · rw [List.filterMap_cons, if_pos h, List.filter_cons, h]
      simpa using fm_filter p f l
    · rw [List.filterMap_cons, if_neg h, List.filter_cons]
      simp only [Bool.not_eq_true] at h
      rw [h]
      simpa using fm_filter p f l
theorem oAt_eq {L : List Bolt} {xs : List D} {k : Nat} (h1 : k < xs.length) (h2 : k < L.length) : oAt L xs k = (nAt xs k || wAt L xs k) := by
  unfold oAt nAt wAt
  rw [List.getElem?_eq_getElem h1, List.getElem?_eq_getElem h2]
/-- a thing whose parts are things -/
def Thing (d : D) : Prop := anyD d = true ∧ ∀ xs, d = .tup xs → (∀ x ∈ xs, anyD x = true) ∧ xs.length ≤ 1000

def elB (x : D) : Bool := anyD x && match x.py with
  | some p => !p.hasDict && p.showable && decide (p.shown.length ≤ 100) && decide (p.depth ≤ 5)
  | none => match x.pyR with
    | some p => p.showable && decide (p.shown.length ≤ 100) && decide (p.depth ≤ 5)
    | none => false
/-- nothing, or a place -/
def Bs (x : D) : Prop := x = .non ∨ ∃ i : Int, x = .int i ∧ 0 ≤ i ∧ i < 4
theorem Bs.el {x : D} (h : Bs x) : elB x = true := by
  rcases h with rfl | ⟨i, rfl, h0, h4⟩
  · decide +kernel
  · have : i = 0 ∨ i = 1 ∨ i = 2 ∨ i = 3 := by omega
    rcases this with rfl | rfl | rfl | rfl <;> decide +kernel
theorem Bs.both {x : D} (h : Bs x) : ∃ p, x.py = some p ∧ x.pyR = some p := by
  rcases h with rfl | ⟨i, rfl, h0, h4⟩
  · exact ⟨_, rfl, rfl⟩
  · exact ⟨_, rfl, rfl⟩
theorem elB_any {x : D} (h : elB x = true) : anyD x = true := by
  unfold elB at h
  rw [Bool.and_eq_true] at h
  exact h.1
/-- the parts are written, each in at most 100 signs -/
structure Lay (n : Nat) (ps : List PyData) : Prop where
  sr : ∀ p ∈ ps, SR p 100
  dp : PyData.depthAll ps ≤ n
theorem Lay.cons {n : Nat} {p : PyData} {ps : List PyData} (a : SR p 100) (b : p.depth ≤ n) (h : Lay n ps) : Lay n (p :: ps) := by
  refine ⟨fun q hq => ?_, ?_⟩
  · rcases List.mem_cons.mp hq with rfl | hq
    · exact a
    · exact h.sr q hq
  · show max p.depth (PyData.depthAll ps) ≤ n
    have := h.dp
    omega
theorem el_py {x : D} (h : elB x = true) : (∃ p, x.py = some p ∧ p.hasDict = false ∧ SR p 100 ∧ p.depth ≤ 5) ∨ (x.py = none ∧ ∃ p, x.pyR = some p ∧ SR p 100 ∧ p.depth ≤ 5) := by
  unfold elB at h
  rw [Bool.and_eq_true] at h
  obtain ⟨_, h⟩ := h
  split at h
  · rename_i p e
    simp only [Bool.and_eq_true, Bool.not_eq_true', decide_eq_true_eq] at h
    exact .inl ⟨p, e, h.1.1.1, ⟨h.1.1.2, h.1.2⟩, h.2⟩
  · rename_i e
    split at h
    · rename_i p e2
      simp only [Bool.and_eq_true, decide_eq_true_eq] at h
      exact .inr ⟨e, p, e2, ⟨h.1.1, h.1.2⟩, h.2⟩
    · cases h
theorem pys_el : ∀ {xs : List D}, (∀ x ∈ xs, ∃ p, x.py = some p ∧ p.hasDict = false ∧ SR p 100 ∧ p.depth ≤ 5) → ∃ ps, D.pys xs = some ps ∧ PyData.hasDictAll ps = false ∧ Lay 5 ps ∧ ps.length = xs.length
  | [], _ => ⟨[], rfl, rfl, ⟨nofun, Nat.zero_le _⟩, rfl⟩
  | x :: r, h => by
    obtain ⟨p, h1, h2, h3, h4⟩ := h x List.mem_cons_self
    obtain ⟨ps, g1, g2, g3, g4⟩ := pys_el fun y hy => h y (List.mem_cons_of_mem x hy)
    refine ⟨p :: ps, by simp only [D.pys, h1, g1], ?_, .cons h3 h4 g3, by simp [g4]⟩
    show (p.hasDict || PyData.hasDictAll ps) = false
    rw [h2, g2]
    rfl
theorem pyRs_el : ∀ {xs : List D}, (∀ x ∈ xs, ∃ p, x.pyR = some p ∧ SR p 100 ∧ p.depth ≤ 5) → ∃ ps, D.pyRs xs = some ps ∧ Lay 5 ps ∧ ps.length = xs.length
  | [], _ => ⟨[], rfl, ⟨nofun, Nat.zero_le _⟩, rfl⟩
  | x :: r, h => by
    obtain ⟨p, h1, h3, h4⟩ := h x List.mem_cons_self
    obtain ⟨ps, g1, g3, g4⟩ := pyRs_el fun y hy => h y (List.mem_cons_of_mem x hy)
    exact ⟨p :: ps, by simp only [D.pyRs, h1, g1], .cons h3 h4 g3, by simp [g4]⟩
theorem pys_none : ∀ {xs : List D} {x : D}, x ∈ xs → x.py = none → D.pys xs = none
  | y :: r, x, h, e => by
    rcases List.mem_cons.mp h with rfl | h
    · simp only [D.pys, e]
    · simp only [D.pys, pys_none h e]
      cases y.py <;> rfl
/-- can be written -/
def WOk (d : D) : Prop := ∃ p, Wr d p ∧ SR p 1000000 ∧ p.depth ≤ 10
theorem WOk.repr {d : D} (h : WOk d) : ∃ x : Str, ∀ (S : Store) (Q : D → Store → Prop) (X : Exn → Store → Prop), Ok (biM .repr d) S Q X = Q (.str x) S := by
  obtain ⟨p, h1, h2, h3⟩ := h
  exact ⟨p.shown, fun S Q X => repr_any h1 h2 (by show 1000000 ≤ 16777216; omega) (by omega)⟩
theorem el_wok {x : D} (h : elB x = true) : WOk x := by
  rcases el_py h with ⟨p, h1, h2, h3, h4⟩ | ⟨h1, p, h2, h3, h4⟩
  · exact ⟨p, .inl ⟨h1, h2⟩, h3.mono (by omega), by omega⟩
  · exact ⟨p, .inr ⟨h1, h2⟩, h3.mono (by omega), by omega⟩
theorem Bs.py {x : D} (h : Bs x) : ∃ p, x.py = some p ∧ p.hasDict = false ∧ SR p 100 ∧ p.depth ≤ 5 := by
  obtain ⟨p, e, _⟩ := h.both
  rcases el_py h.el with q | ⟨q, _⟩
  · exact q
  · rw [e] at q; cases q
theorem Bs.pyR {x : D} (h : Bs x) : ∃ p, x.pyR = some p ∧ SR p 100 ∧ p.depth ≤ 5 := by
  obtain ⟨p, e, e2⟩ := h.both
  obtain ⟨p', q1, _, q2, q3⟩ := h.py
  rw [e] at q1
  cases q1
  exact ⟨p, e2, q2, q3⟩
theorem wok_one {as bs : List D} {y : D} (ha : ∀ x ∈ as, Bs x) (hb : ∀ x ∈ bs, Bs x) (hy : elB y = true) (hl : as.length + bs.length ≤ 500) : WOk (.tup (as ++ y :: bs)) := by
  have mem : ∀ x ∈ as ++ y :: bs, Bs x ∨ x = y := fun x hx => by
    rcases List.mem_append.mp hx with h | h
    · exact .inl (ha x h)
    · rcases List.mem_cons.mp h with h | h
      · exact .inr h
      · exact .inl (hb x h)
  have len : (as ++ y :: bs).length ≤ 501 := by simp; omega
  rcases el_py hy with q | ⟨q, q2⟩
  · obtain ⟨ps, h1, h2, h3, h4⟩ := pys_el fun x hx => (mem x hx).elim Bs.py fun e => by rw [e]; exact q
    exact ⟨.tuple ps, .inl ⟨by simp only [D.py, h1]; rfl, h2⟩, (SR_tuple h3.sr (m := 501) (by omega)).mono (by omega), by show PyData.depthAll ps + 1 ≤ 10; have := h3.dp; omega⟩
  · obtain ⟨ps, h1, h3, h4⟩ := pyRs_el fun x hx => (mem x hx).elim Bs.pyR fun e => by rw [e]; exact q2
    have hn : D.pys (as ++ y :: bs) = none := pys_none (x := y) (List.mem_append_right _ List.mem_cons_self) q
    exact ⟨.tuple ps, .inr ⟨by simp only [D.py, hn]; rfl, by simp only [D.pyR, h1]; rfl⟩, (SR_tuple h3.sr (m := 501) (by omega)).mono (by omega), by show PyData.depthAll ps + 1 ≤ 10; have := h3.dp; omega⟩
theorem wok_tup {as : List D} (ha : ∀ x ∈ as, Bs x) (hl : as.length ≤ 500) : WOk (.tup as) := by
  obtain ⟨ps, h1, h2, h3, h4⟩ := pys_el fun x hx => (ha x hx).py
  exact ⟨.tuple ps, .inl ⟨by simp only [D.py, h1]; rfl, h2⟩, (SR_tuple h3.sr (m := 500) (by omega)).mono (by omega), by show PyData.depthAll ps + 1 ≤ 10; have := h3.dp; omega⟩
theorem wok_lst {as : List D} (ha : ∀ x ∈ as, Bs x) (hl : as.length ≤ 500) : WOk (.lst as) := by
  obtain ⟨ps, h1, h2, h3, h4⟩ := pys_el fun x hx => (ha x hx).py
  exact ⟨.list ps, .inl ⟨by simp only [D.py, h1]; rfl, h2⟩, (SR_list h3.sr (m := 500) (by omega)).mono (by omega), by show PyData.depthAll ps + 1 ≤ 10; have := h3.dp; omega⟩
/-- a thing that can be written -/
def ThW (d : D) : Prop := Thing d ∧ WOk d
theorem thw_one {as bs : List D} {y : D} (ha : ∀ x ∈ as, Bs x) (hb : ∀ x ∈ bs, Bs x) (hy : elB y = true) (hl : as.length + bs.length ≤ 500) : ThW (.tup (as ++ y :: bs)) := by
  refine ⟨⟨rfl, fun xs e => ?_⟩, wok_one ha hb hy hl⟩
  cases e
  refine ⟨fun x hx => ?_, by simp; omega⟩
  rcases List.mem_append.mp hx with h | h
  · exact elB_any (ha x h).el
  · rcases List.mem_cons.mp h with h | h
    · rw [h]; exact elB_any hy
    · exact elB_any (hb x h).el
theorem thw_tup {as : List D} (ha : ∀ x ∈ as, Bs x) (hl : as.length ≤ 500) : ThW (.tup as) :=
  ⟨⟨rfl, fun xs e => by cases e; exact ⟨fun x hx => elB_any (ha x hx).el, by omega⟩⟩, wok_tup ha hl⟩
theorem thw_lst {as : List D} (ha : ∀ x ∈ as, Bs x) (hl : as.length ≤ 500) : ThW (.lst as) := ⟨⟨rfl, fun xs e => by cases e⟩, wok_lst ha hl⟩
def elT (x : D) : Bool := elB x && match x with
  | .tup xs => xs.all anyD && decide (xs.length ≤ 1000)
  | _ => true
theorem thw_el {x : D} (h : elT x = true) : ThW x := by
  unfold elT at h
  rw [Bool.and_eq_true] at h
  refine ⟨⟨elB_any h.1, fun xs e => ?_⟩, el_wok h.1⟩
  subst e
  simp only [Bool.and_eq_true, decide_eq_true_eq, List.all_eq_true] at h
  exact h.2
theorem elT_el {x : D} (h : elT x = true) : elB x = true := by
  unfold elT at h
  rw [Bool.and_eq_true] at h
  exact h.1
theorem cut_mem {α : Type} {xs : List α} {lo hi : Option Int} {x : α} (h : x ∈ cut xs lo hi) : x ∈ xs := List.mem_of_mem_drop (List.mem_of_mem_take h)
theorem cut_len {α : Type} (xs : List α) (lo hi : Option Int) : (cut xs lo hi).length ≤ xs.length := by
  unfold cut
  rw [List.length_take, List.length_drop]
  omega
def elR (x : D) : Bool := match x.pyR with
  | some p => p.showable && decide (p.shown.length ≤ 100) && decide (p.depth ≤ 5)
  | none => false
theorem elR_py {x : D} (h : elR x = true) : ∃ p, x.pyR = some p ∧ SR p 100 ∧ p.depth ≤ 5 := by
  unfold elR at h
  split at h
  · rename_i p e
    simp only [Bool.and_eq_true, decide_eq_true_eq] at h
    exact ⟨p, e, ⟨h.1.1, h.1.2⟩, h.2⟩
  · cases h
theorem pyRs_map {α : Type} (e : α → D) (f : α → PyData) (h : ∀ x, (e x).pyR = some (f x)) : ∀ l : List α, D.pyRs (l.map e) = some (l.map f)
  | [] => rfl
  | a :: r => by
    show (match (e a).pyR, D.pyRs (r.map e) with | some e, some s => some (e :: s) | _, _ => none) = _
    rw [h a, pyRs_map e f h r]
    rfl
theorem pyR_word (w : List Int) : (wordTup w).pyR = some (wordP w) := by
  simp only [wordTup, D.pyR, pyRs_map D.int PyData.int (fun _ => rfl), Option.map_some, wordP]
theorem pyR_gap (g : Gap) : (gapD g).pyR = some (gapP g) := by
  simp only [gapD, D.pyR, D.pyRs, pyRs_map wordTup wordP pyR_word, Option.map_some, gapP]
theorem pyR_bolt (b : Bolt) : (boltD b).pyR = some (boltP b) := by
  simp only [boltD, D.pyR, D.pyRs, pyRs_map gapD gapP pyR_gap, Option.map_some, boltP]
theorem pyR_lock (L : List Bolt) : (lockD L).pyR = some (lockP L) := by
  simp only [lockD, D.pyR, pyRs_map boltD boltP pyR_bolt, Option.map_some, lockP]
/-- a step, or a thing in its place -/
def sT (d : D) : Bool := elT d && elR d && match d with
  | .tup [.int _, b] => (match b with
    | .int _ | .non | .bl _ => true
    | _ => false)
  | _ => true
theorem sT_el {d : D} (h : sT d = true) : elT d = true := by
  unfold sT at h
  simp only [Bool.and_eq_true] at h
  exact h.1.1
theorem sT_R {d : D} (h : sT d = true) : elR d = true := by
  unfold sT at h
  simp only [Bool.and_eq_true] at h
  exact h.1.2
/-- how a row of things, or one thing, is written -/
theorem wr_row {ds : List D} (h : ∀ d ∈ ds, sT d = true) : (∃ ps, D.pys ds = some ps ∧ PyData.hasDictAll ps = false ∧ Lay 5 ps ∧ ps.length = ds.length) ∨ (D.pys ds = none ∧ ∃ ps, D.pyRs ds = some ps ∧ Lay 5 ps ∧ ps.length = ds.length) := by
  by_cases z : ∃ d ∈ ds, d.py = none
  · obtain ⟨d, hd, e⟩ := z
    exact .inr ⟨pys_none hd e, pyRs_el fun x hx => elR_py (sT_R (h x hx))⟩
  · refine .inl (pys_el fun x hx => ?_)
    rcases el_py (elT_el (sT_el (h x hx))) with q | ⟨q, _⟩
    · exact q
    · exact absurd ⟨x, hx, q⟩ z
theorem py3 {a b c : D} {x y z : PyData} (ha : a.py = some x) (hb : b.py = some y) (hc : c.py = some z) : (D.tup [a, b, c]).py = some (.tuple [x, y, z]) := by simp only [D.py, D.pys, ha, hb, hc, Option.map_some]
theorem py3n {a b c : D} {x y : PyData} (ha : a.py = some x) (hb : b.py = some y) (hc : c.py = none) : (D.tup [a, b, c]).py = none := by simp only [D.py, D.pys, ha, hb, hc, Option.map_none]
theorem pyR3 {a b c : D} {x y z : PyData} (ha : a.pyR = some x) (hb : b.pyR = some y) (hc : c.pyR = some z) : (D.tup [a, b, c]).pyR = some (.tuple [x, y, z]) := by simp only [D.pyR, D.pyRs, ha, hb, hc, Option.map_some]
/-- (lock, stand, thing) is written -/
theorem wok3 {L : List Bolt} {st : List Int} (ok : LockOk L) (h11 : L.length ≤ 11) (hst : wordB L st = true) {d : D} (hd : (∃ p, d.py = some p ∧ p.hasDict = false ∧ SR p 200000 ∧ p.depth ≤ 8) ∨ (d.py = none ∧ ∃ p, d.pyR = some p ∧ SR p 200000 ∧ p.depth ≤ 8)) :
    ∃ x : Str, ∀ (S : Store) (Q : D → Store → Prop) (X : Exn → Store → Prop), Ok (biM .repr (.tup [lockD L, wordTup st, d])) S Q X = Q (.str x) S := by
  have s1 := lock_sbN ok h11
  have s2 := word_sb hst (fun b hb => (ok.n4 b hb).2) ok.most
  have d1 := lock_depth L
  have d2 := word_depth st
  have big : ∀ p : PyData, SR p 200000 → p.depth ≤ 8 → SR (.tuple [lockP L, wordP st, p]) 16777216 ∧ (PyData.tuple [lockP L, wordP st, p]).depth ≤ 60 := fun p h1 h2 => by
    refine ⟨(SR_tuple (n := 3100000) (m := 3) (fun x hx => ?_) (by simp)).mono (by omega), ?_⟩
    · simp only [List.mem_cons, List.not_mem_nil, or_false] at hx
      rcases hx with rfl | rfl | rfl
      · exact s1.sr.mono (by omega)
      · exact s2.sr.mono (by omega)
      · exact h1.mono (by omega)
    · show max (lockP L).depth (max (wordP st).depth (max p.depth 0)) + 1 ≤ 60
      omega
  rcases hd with ⟨p, h1, h2, h3, h4⟩ | ⟨h1, p, h2, h3, h4⟩
  · obtain ⟨b1, b2⟩ := big p h3 h4
    refine ⟨(PyData.tuple [lockP L, wordP st, p]).shown, fun S Q X => repr_any (.inl ⟨py3 (py_lock L) (py_word st) h1, ?_⟩) b1 (by show 16777216 ≤ 16777216; omega) b2⟩
    show ((lockP L).hasDict || ((wordP st).hasDict || (p.hasDict || false))) = false
    rw [s1.nd, s2.nd, h2]
    rfl
  · obtain ⟨b1, b2⟩ := big p h3 h4
    exact ⟨(PyData.tuple [lockP L, wordP st, p]).shown, fun S Q X => repr_any (.inr ⟨py3n (py_lock L) (py_word st) h1, pyR3 (pyR_lock L) (pyR_word st) h2⟩) b1 (by show 16777216 ≤ 16777216; omega) b2⟩
theorem wr_lst {ds : List D} (h : ∀ d ∈ ds, sT d = true) (hl : ds.length ≤ 1000) : (∃ p, (D.lst ds).py = some p ∧ p.hasDict = false ∧ SR p 200000 ∧ p.depth ≤ 8) ∨ ((D.lst ds).py = none ∧ ∃ p, (D.lst ds).pyR = some p ∧ SR p 200000 ∧ p.depth ≤ 8) := by
  rcases wr_row h with ⟨ps, h1, h2, h3, h4⟩ | ⟨h0, ps, h1, h3, h4⟩
  · exact .inl ⟨.list ps, by simp only [D.py, h1, Option.map_some], h2, (SR_list h3.sr (m := 1000) (by omega)).mono (by omega), by show PyData.depthAll ps + 1 ≤ 8; have := h3.dp; omega⟩
  · exact .inr ⟨by simp only [D.py, h0, Option.map_none], .list ps, by simp only [D.pyR, h1, Option.map_some], (SR_list h3.sr (m := 1000) (by omega)).mono (by omega), by show PyData.depthAll ps + 1 ≤ 8; have := h3.dp; omega⟩
theorem wr_tup {ds : List D} (h : ∀ d ∈ ds, sT d = true) (hl : ds.length ≤ 1000) : (∃ p, (D.tup ds).py = some p ∧ p.hasDict = false ∧ SR p 200000 ∧ p.depth ≤ 8) ∨ ((D.tup ds).py = none ∧ ∃ p, (D.tup ds).pyR = some p ∧ SR p 200000 ∧ p.depth ≤ 8) := by
  rcases wr_row h with ⟨ps, h1, h2, h3, h4⟩ | ⟨h0, ps, h1, h3, h4⟩
  · exact .inl ⟨.tuple ps, by simp only [D.py, h1, Option.map_some], h2, (SR_tuple h3.sr (m := 1000) (by omega)).mono (by omega), by show PyData.depthAll ps + 1 ≤ 8; have := h3.dp; omega⟩
  · exact .inr ⟨by simp only [D.py, h0, Option.map_none], .tuple ps, by simp only [D.pyR, h1, Option.map_some], (SR_tuple h3.sr (m := 1000) (by omega)).mono (by omega), by show PyData.depthAll ps + 1 ≤ 8; have := h3.dp; omega⟩
end WB
namespace WB
open PySem L2

def keysV (x : D) : M (List D) := match x with
  | .kd ks _ => M.ret ks
  | _ => M.bad
def okdV (o : Option (Option D)) : Option (List D × List D) := match o with
  | some (some (.okd ks vs)) => some (ks, vs)
  | _ => none
def withK (o : Option (List D × List D)) (f : List D × List D → M Fl) : M Fl := match o with
  | some p => f p
  | none => M.bad
def updV (ρ : Env) (i : Nat) (p : List D × List D) (d : D) : M Fl := match d.list? with
  | some ds => match kdAdd ds p with
    | some q => if p.1.length + ds.length ≤ sizeLine then M.ret (.nx (ρ.set i (some (.okd q.1 q.2)))) else M.bad
    | none => M.bad
  | none => M.bad
@[simp] theorem withK_some (p : List D × List D) (f : List D × List D → M Fl) : withK (some p) f = f p := rfl
@[simp] theorem okdV_okd (ks vs : List D) : okdV (some (some (.okd ks vs))) = some (ks, vs) := rfl
section
variable (Φ : Tb) (ρ : Env)
@[simp] theorem den_kdnew : den Φ .kdnew ρ = M.ret (.okd [] []) := rfl
@[simp] theorem den_minI (a b : E) : den Φ (.minI a b) ρ = M.bnd (den Φ a ρ) fun x => M.bnd (den Φ b ρ) fun y => mnxM (fun i j => if j < i then j else i) x y := rfl
@[simp] theorem den_maxI (a b : E) : den Φ (.maxI a b) ρ = M.bnd (den Φ a ρ) fun x => M.bnd (den Φ b ρ) fun y => mnxM (fun i j => if i < j then j else i) x y := rfl
@[simp] theorem denI_keys (e : E) : denI Φ (.keys e) ρ = M.bnd (den Φ e ρ) keysV := rfl
@[simp] theorem exec_updK (i : Nat) (e : E) : exec Φ (.updK i e) ρ = withK (okdV ρ[i]?) fun p => tryM (den Φ e ρ) ρ (updV ρ i p) := rfl
@[simp] theorem exec_frzK (i : Nat) : exec Φ (.frzK i) ρ = withK (okdV ρ[i]?) fun p => M.ret (.nx (ρ.set i (some (.kd p.1 p.2)))) := rfl
end
@[simp] theorem keysV_kd (ks vs : List D) : keysV (.kd ks vs) = M.ret ks := rfl
@[simp] theorem mnx_int (f : Int → Int → Int) (i j : Int) : mnxM f (.int i) (.int j) = M.ret (.int (f i j)) := rfl
@[simp] theorem ldV_kd (ks vs : List D) : ldV (some (some (.kd ks vs))) = M.ret (.kd ks vs) := rfl
@[simp] theorem hand_kd (ks vs : List D) : handM (.kd ks vs) = M.ret (.kd ks vs) := rfl
@[simp] theorem retV_kd (ks vs : List D) : retV (.kd ks vs) = M.ret (.rt (.kd ks vs)) := rfl
@[simp] theorem setI_kd (ρ : Env) (j : Nat) (ks vs : List D) : setI ρ j (.kd ks vs) = if j < ρ.length then M.ret (.nx (ρ.set j (some (.kd ks vs)))) else M.bad := rfl
@[simp] theorem setI_okd (ρ : Env) (j : Nat) (ks vs : List D) : setI ρ j (.okd ks vs) = if j < ρ.length then M.ret (.nx (ρ.set j (some (.okd ks vs)))) else M.bad := rfl
@[simp] theorem len_kd {S : Store} {Q : D → Store → Prop} {X : Exn → Store → Prop} (ks vs : List D) (h : ks.length ≤ sizeLine) : Ok (biM .len (.kd ks vs)) S Q X = Q (.int ks.length) S := by
  have e : biM .len (.kd ks vs) S = .ok (.int ks.length) S := if_pos h
  rw [Ok_eq]
  unfold OkM
  rw [e]
theorem mem_kd {a : D} {ks vs : List D} {k : NestedKey} (h : a.key = some k) : memD a (.kd ks vs) = some (kdAt k ks vs).isSome := by
  show (match a.key with | some k => some (kdAt k ks vs).isSome | none => none) = _
  rw [h]
theorem sub_kd {a : D} {ks vs : List D} {k : NestedKey} (h : a.key = some k) : subD (.kd ks vs) a = kdAt k ks vs := by
  show (match a.key with | some k => kdAt k ks vs | none => none) = _
  rw [h]
theorem nks_ints : ∀ w : List Int, D.nks (w.map D.int) = some (w.map NestedKey.num)
  | [] => rfl
  | i :: w => by
    show (match D.nk (.int i), D.nks (w.map D.int) with | some e, some s => some (e :: s) | _, _ => none) = _
    rw [nks_ints w]
    rfl
theorem depth_nums : ∀ w : List Int, NestedKey.depthAll (w.map NestedKey.num) = 0
  | [] => rfl
  | i :: w => by
    show max 0 (NestedKey.depthAll (w.map NestedKey.num)) = 0
    rw [depth_nums w]
    rfl
theorem num_inj {v w : List Int} (h : v.map NestedKey.num = w.map NestedKey.num) : v = w := by
  induction v generalizing w with
  | nil => cases w with
    | nil => rfl
    | cons _ _ => cases h
  | cons a v ih =>
    cases w with
    | nil => cases h
    | cons b w =>
      rw [List.map_cons, List.map_cons] at h
      injection h with h1 h2
      injection h1 with h1
      rw [h1, ih h2]
/-- one way of a lock: bolt, ends, word; its price -/
structure En where
  k : Nat
  h : Int
  t : Int
  w : List Int
  p : Int
def En.K (e : En) : Nat × Int × Int × List Int := (e.k, e.h, e.t, e.w)
def enD (e : En) : D := .tup [.int e.k, .int e.h, .int e.t, wordTup e.w]
def vaD (e : En) : D := .int e.p
def paD (e : En) : D := .tup [enD e, .int e.p]
def enN (K : Nat × Int × Int × List Int) : NestedKey := .tup [.num K.1, .num K.2.1, .num K.2.2.1, .tup (K.2.2.2.map NestedKey.num)]
theorem enN_inj {a b : Nat × Int × Int × List Int} (h : enN a = enN b) : a = b := by
  obtain ⟨a1, a2, a3, a4⟩ := a
  obtain ⟨b1, b2, b3, b4⟩ := b
  simp only [enN, NestedKey.tup.injEq, List.cons.injEq, NestedKey.num.injEq, and_true] at h
  obtain ⟨h1, h2, h3, h4⟩ := h
  have h1 : a1 = b1 := by omega
  rw [h1, h2, h3, num_inj h4]
theorem en_key (e : En) : (enD e).key = some (enN e.K) := by
  have h : D.nk (enD e) = some (enN e.K) := by
    show (D.nks [.int e.k, .int e.h, .int e.t, .tup (e.w.map D.int)]).map NestedKey.tup = _
    simp only [D.nks, D.nk, nks_ints, Option.map_some]
    rfl
  have h2 : (enN e.K).depth ≤ 8 := by
    show max 0 (max 0 (max 0 (max (NestedKey.depthAll (e.w.map NestedKey.num) + 1) 0))) + 1 ≤ 8
    rw [depth_nums]
    decide
  show (match D.nk (enD e) with | some k => if k.depth ≤ 8 then some k else none | none => none) = _
  rw [h]
  exact if_pos h2
theorem kdAt_en (K : Nat × Int × Int × List Int) : ∀ es : List En, kdAt (enN K) (es.map enD) (es.map vaD) = (es.find? fun e => decide (e.K = K)).map vaD
  | [] => rfl
  | e :: es => by
    rw [List.map_cons, List.map_cons, kdAt, en_key, List.find?_cons]
    by_cases h : e.K = K
    · rw [if_pos (by rw [h])]
      simp [h]
    · rw [if_neg (fun z => h (enN_inj (Option.some.inj z)))]
      simp only [h, decide_false]
      exact kdAt_en K es
theorem kdPut_new {x v : D} {K : Nat × Int × Int × List Int} : ∀ {es : List En}, (∀ e ∈ es, e.K ≠ K) → kdPut x (enN K) v (es.map enD) (es.map vaD) = (es.map enD ++ [x], es.map vaD ++ [v])
  | [], _ => rfl
  | e :: es, h => by
    rw [List.map_cons, List.map_cons, kdPut, en_key, if_neg (fun z => h e (by simp) (enN_inj (Option.some.inj z))), kdPut_new fun e he => h e (by simp [he])]
    rfl
theorem kdAdd_new : ∀ {new es : List En}, ((es ++ new).map En.K).Nodup → kdAdd (new.map paD) (es.map enD, es.map vaD) = some ((es ++ new).map enD, (es ++ new).map vaD)
  | [], es, _ => by simp [kdAdd]
  | e :: new, es, h => by
    have h2 : ((es ++ [e]) ++ new) = es ++ e :: new := by simp
    have nd : ∀ x ∈ es, x.K ≠ e.K := fun x hx z => by
      rw [List.map_append, List.nodup_append] at h
      exact h.2.2 x.K (List.mem_map.mpr ⟨x, hx, rfl⟩) e.K (by simp) z
    show (match (enD e).key with | some k => kdAdd (new.map paD) (kdPut (enD e) k (.int e.p) (es.map enD) (es.map vaD)) | none => none) = _
    rw [en_key]
    simp only
    rw [kdPut_new nd]
    have e1 : (es.map enD ++ [enD e], es.map vaD ++ [D.int e.p]) = ((es ++ [e]).map enD, (es ++ [e]).map vaD) := by simp [vaD]
    rw [e1, kdAdd_new (by rw [h2]; exact h), h2]
def entsG (k : Nat) (g : Gap) : List En := g.ws.map fun w => ⟨k, g.h, g.t, w, g.p⟩
def entsB (p : Bolt × Nat) : List En := p.1.gs.flatMap (entsG p.2)
def entsL (L : List Bolt) : List En := L.zipIdx.flatMap entsB
theorem mem_entsB {p : Bolt × Nat} {e : En} : e ∈ entsB p ↔ e.k = p.2 ∧ ∃ g ∈ p.1.gs, e.h = g.h ∧ e.t = g.t ∧ e.p = g.p ∧ e.w ∈ g.ws := by
  unfold entsB entsG
  rw [List.mem_flatMap]
  constructor
  · rintro ⟨g, hg, h⟩
    obtain ⟨w, hw, rfl⟩ := List.mem_map.mp h
    exact ⟨rfl, g, hg, rfl, rfl, rfl, hw⟩
  · rintro ⟨h0, g, hg, h1, h2, h3, h4⟩
    refine ⟨g, hg, List.mem_map.mpr ⟨e.w, h4, ?_⟩⟩
    cases e
    simp only at h0 h1 h2 h3
    subst h0 h1 h2 h3
    rfl
theorem mem_ents {L : List Bolt} {e : En} : e ∈ entsL L ↔ ∃ b, L[e.k]? = some b ∧ ∃ g ∈ b.gs, e.h = g.h ∧ e.t = g.t ∧ e.p = g.p ∧ e.w ∈ g.ws := by
  unfold entsL
  rw [List.mem_flatMap]
  constructor
  · rintro ⟨p, hp, h⟩
    obtain ⟨h0, g, hg, h1⟩ := mem_entsB.mp h
    refine ⟨p.1, ?_, g, hg, h1⟩
    rw [h0]
    exact zip_mem hp
  · rintro ⟨b, hb, g, hg, h1⟩
    refine ⟨(b, e.k), ?_, mem_entsB.mpr ⟨rfl, g, hg, h1⟩⟩
    rw [List.mem_zipIdx_iff_getElem?]
    exact hb
theorem gap_uniq {L : List Bolt} {b : Bolt} (h : boltB L b = true) {g g' : Gap} (hg : g ∈ b.gs) (hg' : g' ∈ b.gs) (e1 : g.h = g'.h) (e2 : g.t = g'.t) : g = g' := by
  have nd := (boltB_rise h).nodup
  obtain ⟨i, hi, rfl⟩ := List.mem_iff_getElem.mp hg
  obtain ⟨j, hj, rfl⟩ := List.mem_iff_getElem.mp hg'
  have : (b.gs.map gapK)[i]'(by simpa using hi) = (b.gs.map gapK)[j]'(by simpa using hj) := by
    simp [gapK, e1, e2]
  have := (List.getElem_inj nd).mp this
  subst this
  rfl
theorem ents_nodup {L : List Bolt} (ok : LockOk L) : ((entsL L).map En.K).Nodup := by
  rw [List.Nodup, List.pairwise_map]
  unfold entsL
  rw [List.pairwise_flatMap]
  refine ⟨fun p hp => ?_, ?_⟩
  · have bo := ok.bolts _ _ (zip_mem hp)
    unfold entsB
    rw [List.pairwise_flatMap]
    refine ⟨fun g hg => ?_, ?_⟩
    · unfold entsG
      rw [List.pairwise_map]
      exact (boltB_gap bo hg).rise.nodup.imp fun n z => n (by simp [En.K] at z; exact z)
    · have r := (boltB_rise bo).nodup
      rw [List.Nodup, List.pairwise_map] at r
      refine r.imp fun {g g'} n x hx y hy z => n ?_
      obtain ⟨w, _, rfl⟩ := List.mem_map.mp hx
      obtain ⟨w', _, rfl⟩ := List.mem_map.mp hy
      simp [En.K] at z
      simp [gapK, z.1, z.2.1]
  · have s : (L.zipIdx.map Prod.snd).Pairwise (· < ·) := by
      rw [List.zipIdx_map_snd]
      exact List.pairwise_lt_range'
    rw [List.pairwise_map] at s
    refine s.imp fun {p q} lt x hx y hy z => ?_
    have e1 := (mem_entsB.mp hx).1
    have e2 := (mem_entsB.mp hy).1
    have : x.k = y.k := congrArg Prod.fst z
    omega
def dueB (L M : List Bolt) : Bool := (entsL M).all fun e => match (entsL L).find? fun e' => decide (e'.K = e.K) with
  | some e' => decide (e'.p ≤ e.p)
  | none => false
def gapF (L : List Bolt) (k : Nat) (h t : Int) : Option Gap := (L[k]?).bind fun b => b.gs.find? fun g => decide (g.h = h) && decide (g.t = t)
def okG (o : Option Gap) (g : Gap) : Bool := match o with
  | none => decide (g.ws = [])
  | some g' => (decide (g.ws = []) || decide (g'.p ≤ g.p)) && g.ws.all fun w => decide (w ∈ g'.ws)
def withinB (L M : List Bolt) : Bool := M.zipIdx.all fun p => p.1.gs.all fun g => okG (gapF L p.2 g.h g.t) g
def Within (L M : List Bolt) : Prop := ∀ (k : Nat) (b : Bolt) (g : Gap), M[k]? = some b → g ∈ b.gs → ∀ w ∈ g.ws, ∃ c, L[k]? = some c ∧ ∃ g' ∈ c.gs, g'.h = g.h ∧ g'.t = g.t ∧ w ∈ g'.ws ∧ g'.p ≤ g.p
theorem gapF_some {L : List Bolt} {k : Nat} {h t : Int} {g : Gap} (e : gapF L k h t = some g) : ∃ c, L[k]? = some c ∧ g ∈ c.gs ∧ g.h = h ∧ g.t = t := by
  unfold gapF at e
  obtain ⟨c, h1, h2⟩ := Option.bind_eq_some_iff.mp e
  have h3 := List.find?_some h2
  simp only [Bool.and_eq_true, decide_eq_true_eq] at h3
  exact ⟨c, h1, List.mem_of_find?_eq_some h2, h3.1, h3.2⟩
theorem gapF_at {L : List Bolt} (ok : LockOk L) {k : Nat} {c : Bolt} {g : Gap} (hc : L[k]? = some c) (hg : g ∈ c.gs) : gapF L k g.h g.t = some g := by
  unfold gapF
  rw [hc, Option.bind_some]
  cases e : c.gs.find? fun g' => decide (g'.h = g.h) && decide (g'.t = g.t) with
  | none =>
    have := List.find?_eq_none.mp e g hg
    simp at this
  | some g' =>
    have h3 := List.find?_some e
    simp only [Bool.and_eq_true, decide_eq_true_eq] at h3
    rw [gap_uniq (ok.bolts _ _ hc) (List.mem_of_find?_eq_some e) hg h3.1 h3.2]
theorem due_iff {L M : List Bolt} (ok : LockOk L) : dueB L M = true ↔ Within L M := by
  unfold dueB
  rw [List.all_eq_true]
  constructor
  · intro h k b g hb hg w hw
    have := h ⟨k, g.h, g.t, w, g.p⟩ (mem_ents.mpr ⟨b, hb, g, hg, rfl, rfl, rfl, hw⟩)
    split at this
    · rename_i e' e
      have h3 := List.find?_some e
      simp only [decide_eq_true_eq, En.K, Prod.mk.injEq] at h3 this
      obtain ⟨c, h4, g', h5, h6, h7, h8, h9⟩ := mem_ents.mp (List.mem_of_find?_eq_some e)
      refine ⟨c, by rw [← h3.1]; exact h4, g', h5, by rw [← h6]; exact h3.2.1, by rw [← h7]; exact h3.2.2.1, by rw [← h3.2.2.2]; exact h9, by rw [← h8]; exact this⟩
    · cases this
  · intro h e he
    obtain ⟨b, hb, g, hg, h1, h2, h3, h4⟩ := mem_ents.mp he
    obtain ⟨c, hc, g', hg', e1, e2, e3, e4⟩ := h e.k b g hb hg e.w h4
    have m : (⟨e.k, g'.h, g'.t, e.w, g'.p⟩ : En) ∈ entsL L := mem_ents.mpr ⟨c, hc, g', hg', rfl, rfl, rfl, e3⟩
    cases f : (entsL L).find? fun e' => decide (e'.K = e.K) with
    | none =>
      have := List.find?_eq_none.mp f _ m
      simp [En.K, e1, e2, h1, h2] at this
    | some e' =>
      simp only [decide_eq_true_eq]
      have q := List.find?_some f
      simp only [decide_eq_true_eq] at q
      have m' := List.mem_of_find?_eq_some f
      have same : e' = ⟨e.k, g'.h, g'.t, e.w, g'.p⟩ := by
        obtain ⟨i, hi, rfl⟩ := List.mem_iff_getElem.mp m'
        obtain ⟨j, hj, ej⟩ := List.mem_iff_getElem.mp m
        have : ((entsL L).map En.K)[i]'(by simpa using hi) = ((entsL L).map En.K)[j]'(by simpa using hj) := by
          rw [List.getElem_map, List.getElem_map, q, ej]
          simp [En.K, e1, e2, h1, h2]
        have := (List.getElem_inj (ents_nodup ok)).mp this
        subst this
        exact ej
      rw [same, h3]
      exact e4
theorem within_iff {L M : List Bolt} (ok : LockOk L) : withinB L M = true ↔ Within L M := by
  unfold withinB
  rw [List.all_eq_true]
  constructor
  · intro h k b g hb hg w hw
    have h1 := h (b, k) (List.mem_zipIdx_iff_getElem?.mpr hb)
    rw [List.all_eq_true] at h1
    have h2 := h1 g hg
    have ne : g.ws ≠ [] := fun z => by rw [z] at hw; cases hw
    cases e : gapF L k g.h g.t with
    | none => simp only [e, okG, decide_eq_true_eq] at h2; exact absurd h2 ne
    | some g' =>
      simp only [e, okG, Bool.and_eq_true, Bool.or_eq_true, decide_eq_true_eq, List.all_eq_true] at h2
      obtain ⟨c, q1, q2, q3, q4⟩ := gapF_some e
      exact ⟨c, q1, g', q2, q3, q4, h2.2 w hw, h2.1.resolve_left ne⟩
  · rintro h ⟨b, k⟩ hp
    have hb := zip_mem hp
    simp only at hb
    rw [List.all_eq_true]
    intro g hg
    cases e : gapF L k g.h g.t with
    | none =>
      simp only [okG, decide_eq_true_eq]
      refine Classical.byContradiction fun ne => ?_
      obtain ⟨w, hw⟩ := List.exists_mem_of_ne_nil _ ne
      obtain ⟨c, hc, g', hg', e1, e2, _⟩ := h k b g hb hg w hw
      have := gapF_at ok hc hg'
      rw [e1, e2, e] at this
      cases this
    | some g' =>
      simp only [okG, Bool.and_eq_true, Bool.or_eq_true, decide_eq_true_eq, List.all_eq_true]
      have all : ∀ w ∈ g.ws, w ∈ g'.ws ∧ g'.p ≤ g.p := fun w hw => by
        obtain ⟨c, hc, g2, hg2, e1, e2, e3, e4⟩ := h k b g hb hg w hw
        have := gapF_at ok hc hg2
        rw [e1, e2, e] at this
        cases this
        exact ⟨e3, e4⟩
      refine ⟨?_, fun w hw => (all w hw).1⟩
      by_cases ne : g.ws = []
      · exact .inl ne
      · obtain ⟨w, hw⟩ := List.exists_mem_of_ne_nil _ ne
        exact .inr (all w hw).2
theorem due_within {L M : List Bolt} (ok : LockOk L) : dueB L M = withinB L M := by
  rw [Bool.eq_iff_iff, due_iff ok, within_iff ok]
end WB
namespace WB
open PySem L2
def k54top (i : Nat) : Stmt := PySem.Challenge.pw_waitbolts_k54_locks_within_one_another.main.body.getD i (.Pass ⟨0, 0, 0, 0⟩)
/-- is_whole -/
def k54b0 : Ss := (.cons (.ret (.and (.isi .int (.var 0)) (.not (.isi .bool (.var 0))))) .nil)
def k54d0 : Dn := ⟨"is_whole", k54top 6, ["thing"], ["thing"], k54b0⟩
/-- is_from -/
def k54b1 : Ss := (.cons (.ret (.and (.call 0 (.cons (.var 0) .nil)) (.chain .le .le (.var 1) (.var 0) (.var 2)))) .nil)
def k54d1 : Dn := ⟨"is_from", k54top 7, ["thing", "low", "high"], ["thing", "low", "high"], k54b1⟩
/-- is_tuple -/
def k54b2 : Ss := (.cons (.ret (.and (.isi .tuple (.var 0)) (.chain .le .le (.var 1) (.bi .len (.var 0)) (.var 2)))) .nil)
def k54d2 : Dn := ⟨"is_tuple", k54top 8, ["thing", "low", "high"], ["thing", "low", "high"], k54b2⟩
/-- is_word -/
def k54b3 : Ss := (.cons (.iff (.not (.val (.call 2 (.cons (.var 1) (.cons (.var 2) (.cons (.var 2) .nil)))))) (.cons (.ret (.cb false)) .nil) .nil) (.cons (.ret (.bi .all (.lc [("place", 3), ("bolt", 4)] (.tup (.cons (.name 3) (.cons (.name 4) .nil))) (.zip (.var 1) (.var 0)) .yes (.call 1 (.cons (.var 3) (.cons (.ci 0) (.cons (.bin .sub (.sub (.var 4) (.ci 0)) (.ci 1)) .nil))))))) .nil))
def k54d3 : Dn := ⟨"is_word", k54top 9, ["lock", "thing", "many", "place", "bolt"], ["lock", "thing", "many"], k54b3⟩
/-- are_rising -/
def k54b4 : Ss := (.cons (.ret (.bi .all (.lc [("k", 1)] (.name 1) (.rng1 (.bin .sub (.bi .len (.var 0)) (.ci 1))) .yes (.cmp .lt (.sub (.var 0) (.var 1)) (.sub (.var 0) (.bin .add (.var 1) (.ci 1))))))) .nil)
def k54d4 : Dn := ⟨"are_rising", k54top 10, ["row", "k"], ["row"], k54b4⟩
/-- is_gap -/
def k54b5 : Ss := (.cons (.iff (.not (.val (.call 2 (.cons (.var 2) (.cons (.ci 4) (.cons (.ci 4) .nil)))))) (.cons (.ret (.cb false)) .nil) .nil) (.cons (.unp (.cons (.name 3) (.cons (.name 4) (.cons (.name 5) (.cons (.name 6) .nil)))) (.var 2)) (.cons (.iff (.or (.not (.val (.call 1 (.cons (.var 3) (.cons (.ci 0) (.cons (.bin .sub (.var 1) (.ci 1)) .nil)))))) (.or (.not (.val (.call 1 (.cons (.var 4) (.cons (.ci 0) (.cons (.bin .sub (.var 1) (.ci 1)) .nil)))))) (.val (.cmp .eq (.var 3) (.var 4))))) (.cons (.ret (.cb false)) .nil) .nil) (.cons (.iff (.or (.not (.val (.call 1 (.cons (.var 5) (.cons (.ci 1) (.cons (.glob 0) .nil)))))) (.not (.val (.isi .tuple (.var 6))))) (.cons (.ret (.cb false)) .nil) .nil) (.cons (.ret (.and (.bi .all (.lc [("way", 7)] (.name 7) (.seq (.var 6)) .yes (.call 3 (.cons (.var 0) (.cons (.var 7) (.cons (.bi .len (.var 0)) .nil)))))) (.call 4 (.cons (.var 6) .nil)))) .nil)))))
def k54d5 : Dn := ⟨"is_gap", k54top 15, ["below", "many", "thing", "here", "there", "price", "ways", "way"], ["below", "many", "thing"], k54b5⟩
/-- is_bolt -/
def k54b6 : Ss := (.cons (.iff (.or (.not (.val (.call 2 (.cons (.var 1) (.cons (.ci 2) (.cons (.ci 2) .nil)))))) (.or (.not (.val (.call 1 (.cons (.sub (.var 1) (.ci 0)) (.cons (.ci 2) (.cons (.ci 4) .nil)))))) (.not (.val (.call 2 (.cons (.sub (.var 1) (.ci 1)) (.cons (.ci 0) (.cons (.ci 12) .nil)))))))) (.cons (.ret (.cb false)) .nil) .nil) (.cons (.unp (.cons (.name 2) (.cons (.name 3) .nil)) (.var 1)) (.cons (.iff (.not (.val (.bi .all (.lc [("gap", 4)] (.name 4) (.seq (.var 3)) .yes (.call 5 (.cons (.var 0) (.cons (.var 2) (.cons (.var 4) .nil)))))))) (.cons (.ret (.cb false)) .nil) .nil) (.cons (.ret (.and (.call 4 (.cons (.lc [("gap", 4)] (.name 4) (.seq (.var 3)) .yes (.sl (.var 4) .none (.some (.ci 2)))) .nil)) (.cmp .le (.bi .sum (.lc [("gap", 4)] (.name 4) (.seq (.var 3)) .yes (.bi .len (.sub (.var 4) (.ci 3))))) (.glob 2)))) .nil))))
def k54d6 : Dn := ⟨"is_bolt", k54top 16, ["below", "thing", "many", "gaps", "gap"], ["below", "thing"], k54b6⟩
/-- ways_of -/
def k54b7 : Ss := (.cons (.ret (.lc2 [("gap", 1), ("way", 2)] [2] (.name 1) (.seq (.sub (.var 0) (.ci 1))) .yes (.name 2) (.seq (.sub (.var 1) (.ci 3))) .yes (.var 2))) .nil)
def k54d7 : Dn := ⟨"ways_of", k54top 17, ["bolt", "gap", "way"], ["bolt"], k54b7⟩
/-- first_wide -/
def k54b8 : Ss := (.cons (.par 2 3 .cn (.lst .nil)) (.cons (.frz 3) (.cons (.for (.name 1) (.rng3 (.bin .sub (.bi .len (.var 0)) (.ci 1)) (.neg (.ci 1)) (.neg (.ci 1))) (.cons (.asg 3 (.bi .sortedSet (.bin .add (.lc [("word", 4)] (.name 4) (.seq (.var 3)) .yes (.sl (.var 4) .none (.some (.var 1)))) (.call 7 (.cons (.sub (.var 0) (.var 1)) .nil))))) (.cons (.frz 3) (.cons (.iff (.val (.cmp .gt (.bi .len (.var 3)) (.glob 3))) (.cons (.asg 2 (.var 1)) .nil) .nil) .nil)))) (.cons (.ret (.var 2)) .nil))))
def k54d8 : Dn := ⟨"first_wide", k54top 18, ["lock", "k", "found", "words", "word"], ["lock"], k54b8⟩
/-- fault_of -/
def k54b9 : Ss := (.cons (.iff (.not (.val (.call 2 (.cons (.var 0) (.cons (.ci 1) (.cons (.glob 1) .nil)))))) (.cons (.ret (.tup (.cons (.cs "lock") .nil))) .nil) .nil) (.cons (.for (.tup (.cons (.name 2) (.cons (.name 3) .nil))) (.enum (.var 0)) (.cons (.iff (.not (.val (.call 6 (.cons (.sl (.var 0) .none (.some (.var 2))) (.cons (.var 3) .nil))))) (.cons (.ret (.tup (.cons (.cs "bolt") (.cons (.var 2) .nil)))) .nil) .nil) .nil)) (.cons (.asg 1 (.call 8 (.cons (.var 0) .nil))) (.cons (.ret (.ite (.val (.cmp .isN (.var 1) .cn)) .cn (.tup (.cons (.cs "words") (.cons (.var 1) .nil))))) .nil))))
def k54d9 : Dn := ⟨"fault_of", k54top 19, ["thing", "wide", "k", "bolt"], ["thing"], k54b9⟩
/-- must_be_lock -/
def k54b10 : Ss := (.cons (.asg 1 (.call 9 (.cons (.var 0) .nil))) (.cons (.iff (.val (.cmp .notN (.var 1) .cn)) (.cons (.raise1 "NoLock" "fault" (.var 1)) .nil) .nil) .nil))
def k54d10 : Dn := ⟨"must_be_lock", k54top 20, ["thing", "fault"], ["thing"], k54b10⟩
/-- are_places -/
def k54b11 : Ss := (.cons (.asg 4 (.bin .sub (.sub (.sub (.var 0) (.var 1)) (.ci 0)) (.ci 1))) (.cons (.ret (.and (.call 1 (.cons (.var 2) (.cons (.ci 0) (.cons (.var 4) .nil)))) (.and (.call 1 (.cons (.var 3) (.cons (.ci 0) (.cons (.var 4) .nil)))) (.cmp .ne (.var 2) (.var 3))))) .nil))
def k54d11 : Dn := ⟨"are_places", k54top 22, ["lock", "k", "here", "there", "most"], ["lock", "k", "here", "there"], k54b11⟩
/-- gap_at -/
def k54b12 : Ss := (.cons (.iff (.not (.val (.call 11 (.cons (.var 0) (.cons (.var 1) (.cons (.var 2) (.cons (.var 3) .nil))))))) (.cons (.ret .cn) .nil) .nil) (.cons (.asgLc 4 [("gap", 5)] (.name 5) (.seq (.sub (.sub (.var 0) (.var 1)) (.ci 1))) (.val (.cmp .eq (.sl (.var 5) .none (.some (.ci 2))) (.tup (.cons (.var 2) (.cons (.var 3) .nil))))) (.var 5)) (.cons (.ret (.ite (.val (.cmp .ne (.var 4) (.lst .nil))) (.sub (.var 4) (.ci 0)) .cn)) .nil)))
def k54d12 : Dn := ⟨"gap_at", k54top 23, ["lock", "k", "here", "there", "found", "gap"], ["lock", "k", "here", "there"], k54b12⟩
/-- must_be_like -/
def k54b13 : Ss := (.cons (.expr (.call 10 (.cons (.var 0) .nil))) (.cons (.expr (.call 10 (.cons (.var 1) .nil))) (.cons (.iff (.val (.cmp .ne (.lc [("bolt", 2)] (.name 2) (.seq (.var 0)) .yes (.sub (.var 2) (.ci 0))) (.lc [("bolt", 2)] (.name 2) (.seq (.var 1)) .yes (.sub (.var 2) (.ci 0))))) (.cons (.raise0 "Unlike") .nil) .nil) .nil)))
def k54d13 : Dn := ⟨"must_be_like", k54top 24, ["lock", "second", "bolt"], ["lock", "second"], k54b13⟩
/-- is_within -/
def k54b14 : Ss := (.cons (.expr (.call 13 (.cons (.var 0) (.cons (.var 1) .nil)))) (.cons (.for (.tup (.cons (.name 2) (.cons (.name 3) .nil))) (.enum (.var 1)) (.cons (.for (.tup (.cons (.name 4) (.cons (.name 5) (.cons (.name 6) (.cons (.name 7) .nil))))) (.seq (.sub (.var 3) (.ci 1))) (.cons (.asg 8 (.call 12 (.cons (.var 0) (.cons (.var 2) (.cons (.var 4) (.cons (.var 5) .nil)))))) (.cons (.iff (.and (.val (.cmp .ne (.var 7) (.tup .nil))) (.or (.val (.cmp .isN (.var 8) .cn)) (.val (.cmp .gt (.sub (.var 8) (.ci 2)) (.var 6))))) (.cons (.ret (.cb false)) .nil) .nil) (.cons (.iff (.not (.val (.bi .all (.lc [("way", 9)] (.name 9) (.seq (.var 7)) .yes (.cmp .mem (.var 9) (.sub (.var 8) (.ci 3))))))) (.cons (.ret (.cb false)) .nil) .nil) .nil)))) .nil)) (.cons (.ret (.cb true)) .nil)))
def k54d14 : Dn := ⟨"is_within", k54top 25, ["lock", "second", "k", "bolt", "here", "there", "price", "ways", "gap", "way"], ["lock", "second"], k54b14⟩
/-- _law_pen -/
def k54b15 : Ss := (.cons (.ret (.lnew (.cons (.bi .list (.sl (.var 0) .none (.some (.ci 63)))) (.cons (.ci 0) (.cons (.ci 0) .nil))))) .nil)
def k54d15 : Dn := ⟨"_law_pen", k54top 27, ["_law_script"], ["_law_script"], k54b15⟩
/-- _law_draw -/
def k54b16 : Ss := (.cons (.iff (.val (.cmp .gt (.lget (.var 0) (.ci 2)) (.ci 0))) (.cons (.asg 5 (.bin .mod (.lget (.var 0) (.ci 2)) (.var 1))) (.cons (.setK (.var 0) (.ci 2) (.bin .fdiv (.lget (.var 0) (.ci 2)) (.var 1))) (.cons (.ret (.var 5)) .nil))) .nil) (.cons (.asg 2 (.lget (.var 0) (.ci 1))) (.cons (.setK (.var 0) (.ci 1) (.bin .add (.var 2) (.ci 1))) (.cons (.asg 3 (.ci 11)) (.cons (.iff (.val (.cmp .ne (.lget (.var 0) (.ci 0)) (.lst .nil))) (.cons (.asg 3 (.sub (.lget (.var 0) (.ci 0)) (.bin .mod (.var 2) (.bi .len (.lget (.var 0) (.ci 0)))))) .nil) .nil) (.cons (.iff (.and (.val (.cmp .lt (.var 2) (.bi .len (.lget (.var 0) (.ci 0))))) (.val (.cmp .ge (.bi .abs (.var 3)) (.bin .pow (.ci 10) (.ci 18))))) (.cons (.setK (.var 0) (.ci 2) (.bin .fdiv (.bi .abs (.var 3)) (.var 1))) (.cons (.ret (.bin .mod (.bi .abs (.var 3)) (.var 1))) .nil)) .nil) (.cons (.asg 4 (.bin .mod (.bin .mul (.bin .add (.bin .mod (.var 3) (.ci 2147483629)) (.ci 13)) (.bin .add (.bin .add (.bin .mul (.var 2) (.var 2)) (.bin .mul (.ci 7) (.var 2))) (.ci 5))) (.ci 2147483647))) (.cons (.asg 4 (.bin .mod (.bin .mul (.bin .mod (.bin .add (.bin .pow (.var 4) (.ci 3)) (.bin .mul (.ci 40692) (.var 2))) (.ci 2147483587)) (.ci 69621)) (.ci 2147483399))) (.cons (.ret (.bin .mod (.bin .fdiv (.var 4) (.ci 64)) (.var 1))) .nil)))))))))
def k54d16 : Dn := ⟨"_law_draw", k54top 28, ["_law_pen_here", "_law_many_here", "_law_at", "_law_cell", "_law_number", "_law_found"], ["_law_pen_here", "_law_many_here"], k54b16⟩
/-- _law_pick -/
def k54b17 : Ss := (.cons (.ret (.sub (.var 1) (.call 16 (.cons (.var 0) (.cons (.bi .len (.var 1)) .nil))))) .nil)
def k54d17 : Dn := ⟨"_law_pick", k54top 29, ["_law_pen_here", "_law_bag"], ["_law_pen_here", "_law_bag"], k54b17⟩
/-- _law_shuffled -/
def k54b18 : Ss := (.cons (.par 2 3 (.bi .list (.var 1)) (.lst .nil)) (.cons (.whl 1000 (.val (.cmp .ne (.var 2) (.lst .nil))) (.cons (.appPop 3 2 (.call 16 (.cons (.var 0) (.cons (.bi .len (.var 2)) .nil)))) .nil)) (.cons (.retO 3) .nil)))
def k54d18 : Dn := ⟨"_law_shuffled", k54top 30, ["_law_pen_here", "_law_bag", "_law_left", "_law_found"], ["_law_pen_here", "_law_bag"], k54b18⟩
/-- _law_price -/
def k54b19 : Ss := (.cons (.ret (.call 17 (.cons (.var 0) (.cons (.lst (.cons (.ci 1) (.cons (.ci 1) (.cons (.ci 2) (.cons (.ci 3) (.cons (.bin .add (.ci 1) (.call 16 (.cons (.var 0) (.cons (.ci 9) .nil)))) (.cons (.bin .add (.ci 1) (.call 16 (.cons (.var 0) (.cons (.var 1) .nil)))) .nil))))))) .nil)))) .nil)
def k54d19 : Dn := ⟨"_law_price", k54top 31, ["_law_pen_here", "_law_dear"], ["_law_pen_here", "_law_dear"], k54b19⟩
/-- _law_bases -/
def k54b20 : Ss := (.cons (.asg 3 (.lst .nil)) (.cons (.for (.name 4) (.rng1 (.bin .add (.ci 1) (.call 16 (.cons (.var 0) (.cons (.var 2) .nil))))) (.cons (.app 3 (.bi .tuple (.lc [("_law_count", 5)] (.name 5) (.seq (.var 1)) .yes (.call 16 (.cons (.var 0) (.cons (.var 5) .nil)))))) .nil)) (.cons (.retO 3) .nil)))
def k54d20 : Dn := ⟨"_law_bases", k54top 32, ["_law_pen_here", "_law_counts", "_law_most", "_law_found", "_law_k", "_law_count"], ["_law_pen_here", "_law_counts", "_law_most"], k54b20⟩
/-- _law_cuts -/
def k54b21 : Ss := (.cons (.asg 2 (.lst .nil)) (.cons (.for (.name 3) (.seq (.var 0)) (.cons (.iff (.val (.cmp .nmem (.sl (.var 3) .none (.some (.var 1))) (.var 2))) (.cons (.app 2 (.sl (.var 3) .none (.some (.var 1)))) .nil) .nil) .nil)) (.cons (.retO 2) .nil)))
def k54d21 : Dn := ⟨"_law_cuts", k54top 33, ["_law_words", "_law_many_here", "_law_found", "_law_word"], ["_law_words", "_law_many_here"], k54b21⟩
/-- _law_many -/
def k54b22 : Ss := (.cons (.ret (.bin .add (.var 1) (.call 16 (.cons (.var 0) (.cons (.sub (.lst (.cons (.bin .sub (.ci 8) (.var 1)) (.cons (.bin .sub (.ci 8) (.var 1)) (.cons (.bin .sub (.ci 8) (.var 1)) (.cons (.bin .sub (.ci 61) (.var 1)) .nil))))) (.call 16 (.cons (.var 0) (.cons (.ci 4) .nil)))) .nil))))) .nil)
def k54d22 : Dn := ⟨"_law_many", k54top 34, ["_law_pen_here", "_law_low"], ["_law_pen_here", "_law_low"], k54b22⟩
/-- _law_gaps -/
def k54b23 : Ss := (.cons (.par3 5 6 7 (.lst .nil) (.lst .nil) (.ci 8)) (.cons (.frz 5) (.cons (.for (.name 4) (.rng1 (.var 1)) (.cons (.asg 5 (.bin .add (.var 5) (.lc [("_law_there", 8)] (.name 8) (.rng1 (.var 1)) (.val (.cmp .ne (.var 8) (.var 4))) (.tup (.cons (.var 4) (.cons (.var 8) .nil)))))) (.cons (.frz 5) .nil))) (.cons (.for (.tup (.cons (.name 4) (.cons (.name 8) .nil))) (.seq (.call 18 (.cons (.var 0) (.cons (.var 5) .nil)))) (.cons (.iff (.val (.cmp .gt (.call 16 (.cons (.var 0) (.cons (.ci 5) .nil))) (.ci 0))) (.cons (.asg 9 (.sl (.bi .sorted (.sl (.call 18 (.cons (.var 0) (.cons (.var 2) .nil))) .none (.some (.call 17 (.cons (.var 0) (.cons (.lst (.cons (.ci 1) (.cons (.ci 1) (.cons (.ci 2) (.cons (.ci 2) (.cons (.ci 0) .nil)))))) .nil)))))) .none (.some (.var 7)))) (.cons (.asg 7 (.bin .sub (.var 7) (.bi .len (.var 9)))) (.cons (.app 6 (.tup (.cons (.var 4) (.cons (.var 8) (.cons (.call 19 (.cons (.var 0) (.cons (.var 3) .nil))) (.cons (.bi .tuple (.var 9)) .nil)))))) .nil))) .nil) .nil)) (.cons (.ret (.bi .tuple (.bi .sorted (.var 6)))) .nil)))))
def k54d23 : Dn := ⟨"_law_gaps", k54top 35, ["_law_pen_here", "_law_count", "_law_words", "_law_dear", "_law_here", "_law_pairs", "_law_found", "_law_left", "_law_there", "_law_bag"], ["_law_pen_here", "_law_count", "_law_words", "_law_dear"], k54b23⟩
/-- _law_lock -/
def k54b24 : Ss := (.cons (.par3 6 7 8 (.lc [("_law_k", 5)] (.name 5) (.rng1 (.var 1)) .yes (.bin .add (.ci 2) (.call 16 (.cons (.var 0) (.cons (.bin .sub (.var 2) (.ci 1)) .nil))))) (.lst .nil) (.ci 4)) (.cons (.frz 6) (.cons (.asg 4 (.call 20 (.cons (.var 0) (.cons (.var 6) (.cons (.ci 3) .nil))))) (.cons (.frz 4) (.cons (.for (.name 5) (.rng1 (.var 1)) (.cons (.asg 9 (.call 21 (.cons (.var 4) (.cons (.var 5) .nil)))) (.cons (.frz 9) (.cons (.iff (.and (.val (.cmp .gt (.var 5) (.ci 0))) (.and (.val (.cmp .gt (.var 8) (.ci 0))) (.val (.cmp .eq (.call 16 (.cons (.var 0) (.cons (.ci 4) .nil))) (.ci 0))))) (.cons (.asg 9 (.call 21 (.cons (.bin .add (.var 9) (.lst (.cons (.bi .tuple (.lc [("_law_count", 10)] (.name 10) (.seq (.sl (.var 6) .none (.some (.var 5)))) .yes (.call 16 (.cons (.var 0) (.cons (.var 10) .nil))))) .nil))) (.cons (.var 5) .nil)))) (.cons (.frz 9) (.cons (.asg 8 (.bin .sub (.var 8) (.ci 1))) .nil))) .nil) (.cons (.app 7 (.tup (.cons (.sub (.var 6) (.var 5)) (.cons (.call 23 (.cons (.var 0) (.cons (.sub (.var 6) (.var 5)) (.cons (.var 9) (.cons (.var 3) .nil))))) .nil)))) .nil))))) (.cons (.ret (.bi .tuple (.var 7))) .nil))))))
def k54d24 : Dn := ⟨"_law_lock", k54top 36, ["_law_pen_here", "_law_many_here", "_law_top", "_law_dear", "_law_bases_here", "_law_k", "_law_counts", "_law_bolts", "_law_spare", "_law_words", "_law_count"], ["_law_pen_here", "_law_many_here", "_law_top", "_law_dear"], k54b24⟩
/-- _law_ways_of -/
def k54b25 : Ss := (.cons (.asg 1 .kdnew) (.cons (.for (.name 2) (.rng1 (.bi .len (.var 0))) (.cons (.for (.tup (.cons (.name 3) (.cons (.name 4) (.cons (.name 5) (.cons (.name 6) .nil))))) (.seq (.sub (.sub (.var 0) (.var 2)) (.ci 1))) (.cons (.updK 1 (.lc [("_law_way", 7)] (.name 7) (.seq (.var 6)) .yes (.tup (.cons (.tup (.cons (.var 2) (.cons (.var 3) (.cons (.var 4) (.cons (.var 7) .nil))))) (.cons (.var 5) .nil))))) .nil)) .nil)) (.cons (.frzK 1) (.cons (.ret (.var 1)) .nil))))
def k54d25 : Dn := ⟨"_law_ways_of", k54top 37, ["_law_lock_here", "_law_found", "_law_k", "_law_here", "_law_there", "_law_price_here", "_law_ways", "_law_way"], ["_law_lock_here"], k54b25⟩
/-- _law_is_due -/
def k54b26 : Ss := (.cons (.par 2 3 (.call 25 (.cons (.var 0) .nil)) (.call 25 (.cons (.var 1) .nil))) (.cons (.ret (.cmp .eq (.lc [("_law_way", 4)] (.name 4) (.keys (.var 3)) (.or (.val (.cmp .nmem (.var 4) (.var 2))) (.val (.cmp .gt (.sub (.var 2) (.var 4)) (.sub (.var 3) (.var 4))))) (.var 4)) (.lst .nil))) .nil))
def k54d26 : Dn := ⟨"_law_is_due", k54top 38, ["_law_lock_here", "_law_second", "_law_mine", "_law_theirs", "_law_way"], ["_law_lock_here", "_law_second"], k54b26⟩
/-- _law_otherwise -/
def k54b27 : Ss := (.cons (.par 2 3 (.lst .nil) (.call 17 (.cons (.var 0) (.cons (.lst (.cons (.ci 2) (.cons (.ci 9) (.cons (.ci 99) .nil)))) .nil)))) (.cons (.for (.tup (.cons (.name 4) (.cons (.name 5) .nil))) (.seq (.var 1)) (.cons (.asg 6 (.lst .nil)) (.cons (.for (.tup (.cons (.name 7) (.cons (.name 8) (.cons (.name 9) (.cons (.name 10) .nil))))) (.seq (.var 5)) (.cons (.iff (.val (.cmp .eq (.call 16 (.cons (.var 0) (.cons (.var 3) .nil))) (.ci 0))) (.cons (.asg 9 (.minI (.bin .pow (.ci 10) (.ci 6)) (.maxI (.ci 1) (.bin .add (.var 9) (.call 17 (.cons (.var 0) (.cons (.lst (.cons (.ci 1) (.cons (.neg (.ci 1)) .nil))) .nil))))))) .nil) .nil) (.cons (.iff (.val (.cmp .eq (.call 16 (.cons (.var 0) (.cons (.var 3) .nil))) (.ci 0))) (.cons (.asg 10 (.sl (.var 10) (.some (.ci 1)) .none)) .nil) .nil) (.cons (.iff (.or (.val (.cmp .gt (.call 16 (.cons (.var 0) (.cons (.var 3) .nil))) (.ci 0))) (.val (.cmp .eq (.call 16 (.cons (.var 0) (.cons (.ci 2) .nil))) (.ci 0)))) (.cons (.app 6 (.tup (.cons (.var 7) (.cons (.var 8) (.cons (.var 9) (.cons (.var 10) .nil)))))) .nil) .nil) .nil)))) (.cons (.app 2 (.tup (.cons (.var 4) (.cons (.bi .tuple (.var 6)) .nil)))) .nil)))) (.cons (.ret (.bi .tuple (.var 2))) .nil)))
def k54d27 : Dn := ⟨"_law_otherwise", k54top 39, ["_law_pen_here", "_law_lock_here", "_law_found", "_law_share", "_law_many_here", "_law_gaps_here", "_law_bag", "_law_here", "_law_there", "_law_price_here", "_law_ways"], ["_law_pen_here", "_law_lock_here"], k54b27⟩
/-- _law_of_counts -/
def k54b28 : Ss := (.cons (.asg 2 (.call 20 (.cons (.var 0) (.cons (.lc [("_law_bolt", 3)] (.name 3) (.seq (.var 1)) .yes (.sub (.var 3) (.ci 0))) (.cons (.ci 2) .nil))))) (.cons (.frz 2) (.cons (.ret (.bi .tuple (.lc [("_law_k", 4)] (.name 4) (.rng1 (.bi .len (.var 1))) .yes (.tup (.cons (.sub (.sub (.var 1) (.var 4)) (.ci 0)) (.cons (.call 23 (.cons (.var 0) (.cons (.sub (.sub (.var 1) (.var 4)) (.ci 0)) (.cons (.call 21 (.cons (.var 2) (.cons (.var 4) .nil))) (.cons (.ci 9) .nil))))) .nil)))))) .nil)))
def k54d28 : Dn := ⟨"_law_of_counts", k54top 40, ["_law_pen_here", "_law_lock_here", "_law_bases_here", "_law_bolt", "_law_k"], ["_law_pen_here", "_law_lock_here"], k54b28⟩
/-- _law_refused -/
def k54b29 : Ss := (.cons (.tryS (.cons (.ret (.call 14 (.cons (.var 0) (.cons (.var 1) .nil)))) .nil) (.cons "Unlike" (some 2) (.ret (.tup (.cons (.cs "unlike") (.cons (.isx (.var 2) "ValueError" ["Unlike"] []) .nil)))) ["Unlike"] ["NoLock"] (.cons "NoLock" (some 2) (.ret (.tup (.cons (.cs "fault") (.cons (.fld (.var 2) "fault" ["NoLock"]) .nil)))) ["NoLock"] [] .nil))) .nil)
def k54d29 : Dn := ⟨"_law_refused", k54top 41, ["_law_lock_here", "_law_second", "e"], ["_law_lock_here", "_law_second"], k54b29⟩
/-- law -/
def k54b30 : Ss := (.cons (.asg 1 (.call 15 (.cons (.var 0) .nil))) (.cons (.for (.name 2) (.rng1 (.ci 5)) (.cons (.asg 3 (.call 24 (.cons (.var 1) (.cons (.call 22 (.cons (.var 1) (.cons (.ci 1) .nil))) (.cons (.ci 4) (.cons (.call 17 (.cons (.var 1) (.cons (.lst (.cons (.ci 9) (.cons (.bin .pow (.ci 10) (.ci 6)) .nil))) .nil))) .nil)))))) (.cons (.asg 4 (.call 17 (.cons (.var 1) (.cons (.lst (.cons (.call 27 (.cons (.var 1) (.cons (.var 3) .nil))) (.cons (.call 27 (.cons (.var 1) (.cons (.var 3) .nil))) (.cons (.var 3) (.cons (.call 28 (.cons (.var 1) (.cons (.var 3) .nil))) .nil))))) .nil)))) (.cons (.for (.tup (.cons (.name 8) (.cons (.name 7) .nil))) (.seq (.lst (.cons (.tup (.cons (.var 3) (.cons (.var 4) .nil))) (.cons (.tup (.cons (.var 4) (.cons (.var 3) .nil))) (.cons (.tup (.cons (.var 3) (.cons (.var 3) .nil))) .nil))))) (.cons (.par 9 10 (.call 26 (.cons (.var 8) (.cons (.var 7) .nil))) (.bi .repr (.tup (.cons (.var 8) (.cons (.var 7) .nil))))) (.cons (.iff (.or (.val (.cmp .ne (.bi .repr (.call 14 (.cons (.var 8) (.cons (.var 7) .nil)))) (.bi .repr (.var 9)))) (.val (.cmp .ne (.bi .repr (.tup (.cons (.var 8) (.cons (.var 7) .nil)))) (.var 10)))) (.cons (.ret (.cb false)) .nil) .nil) .nil))) (.cons (.asg 5 (.call 16 (.cons (.var 1) (.cons (.bi .len (.var 3)) .nil)))) (.cons (.asg 6 (.bin .add (.bin .add (.sl (.var 3) .none (.some (.var 5))) (.tup (.cons (.tup (.cons (.bin .add (.ci 2) (.bin .mod (.bin .sub (.sub (.sub (.var 3) (.var 5)) (.ci 0)) (.ci 1)) (.ci 3))) (.cons (.tup .nil) .nil))) .nil))) (.sl (.var 3) (.some (.bin .add (.var 5) (.ci 1))) .none))) (.cons (.asg 6 (.bi .tuple (.lc [("_law_k", 11)] (.name 11) (.rng1 (.bi .len (.var 6))) .yes (.tup (.cons (.sub (.sub (.var 6) (.var 11)) (.ci 0)) (.cons (.tup .nil) .nil)))))) (.cons (.for (.name 7) (.seq (.lst (.cons (.var 6) (.cons (.bin .add (.bin .add (.sl (.var 3) .none (.some (.neg (.ci 1)))) (.sl (.var 3) (.some (.neg (.ci 1))) .none)) (.tup (.cons (.tup (.cons (.ci 2) (.cons (.tup .nil) .nil))) .nil))) (.cons (.bin .add (.sl (.var 6) .none (.some (.neg (.ci 1)))) (.tup (.cons (.tup (.cons (.ci 2) (.cons (.tup .nil) .nil))) (.cons (.tup (.cons (.ci 3) (.cons (.tup .nil) .nil))) .nil)))) .nil))))) (.cons (.iff (.and (.val (.cmp .le (.bi .len (.var 7)) (.ci 60))) (.val (.cmp .ne (.call 29 (.cons (.var 3) (.cons (.var 7) .nil))) (.tup (.cons (.cs "unlike") (.cons (.cb true) .nil)))))) (.cons (.ret (.cb false)) .nil) .nil) .nil)) (.cons (.iff (.val (.cmp .ne (.call 29 (.cons (.var 6) (.cons (.tup (.cons (.tup (.cons (.ci 2) (.cons (.tup (.cons (.tup (.cons (.ci 0) (.cons (.ci 0) (.cons (.ci 1) (.cons (.tup .nil) .nil))))) .nil)) .nil))) .nil)) .nil))) (.tup (.cons (.cs "fault") (.cons (.tup (.cons (.cs "bolt") (.cons (.ci 0) .nil))) .nil))))) (.cons (.ret (.cb false)) .nil) .nil) (.cons (.iff (.or (.val (.cmp .ne (.call 29 (.cons (.tup .nil) (.cons (.ci 5) .nil))) (.tup (.cons (.cs "fault") (.cons (.tup (.cons (.cs "lock") .nil)) .nil))))) (.val (.cmp .ne (.call 29 (.cons (.tup (.cons (.tup (.cons (.ci 5) (.cons (.tup .nil) .nil))) .nil)) (.cons (.tup .nil) .nil))) (.tup (.cons (.cs "fault") (.cons (.tup (.cons (.cs "bolt") (.cons (.ci 0) .nil))) .nil)))))) (.cons (.ret (.cb false)) .nil) .nil) .nil)))))))))) (.cons (.ret (.cb true)) .nil)))
def k54d30 : Dn := ⟨"law", k54top 42, ["_law_script", "_law_pen_here", "_law_bout", "_law_lock_here", "_law_second", "_law_spot", "_law_wide", "_law_other", "_law_one", "_law_due", "_law_kept", "_law_k"], ["_law_script"], k54b30⟩
def k54tab : List Dn := [k54d0, k54d1, k54d2, k54d3, k54d4, k54d5, k54d6, k54d7, k54d8, k54d9, k54d10, k54d11, k54d12, k54d13, k54d14, k54d15, k54d16, k54d17, k54d18, k54d19, k54d20, k54d21, k54d22, k54d23, k54d24, k54d25, k54d26, k54d27, k54d28, k54d29, k54d30]
def k54fns : List (Str × Nat) := [(("is_whole" : Str), 0), (("is_from" : Str), 1), (("is_tuple" : Str), 2), (("is_word" : Str), 3), (("are_rising" : Str), 4), (("is_gap" : Str), 5), (("is_bolt" : Str), 6), (("ways_of" : Str), 7), (("first_wide" : Str), 8), (("fault_of" : Str), 9), (("must_be_lock" : Str), 10), (("are_places" : Str), 11), (("gap_at" : Str), 12), (("must_be_like" : Str), 13), (("is_within" : Str), 14), (("_law_pen" : Str), 15), (("_law_draw" : Str), 16), (("_law_pick" : Str), 17), (("_law_shuffled" : Str), 18), (("_law_price" : Str), 19), (("_law_bases" : Str), 20), (("_law_cuts" : Str), 21), (("_law_many" : Str), 22), (("_law_gaps" : Str), 23), (("_law_lock" : Str), 24), (("_law_ways_of" : Str), 25), (("_law_is_due" : Str), 26), (("_law_otherwise" : Str), 27), (("_law_of_counts" : Str), 28), (("_law_refused" : Str), 29), (("law" : Str), 30)]
def k54cstN : List (Str × Nat) := [("MOST_PRICE", 0), ("MOST_BOLTS", 1), ("MOST_WAYS", 2), ("MOST_WORDS", 3)]
def k54cst : Nat → Option D
  | 0 => some (.int 1000000)
  | 1 => some (.int 60)
  | 2 => some (.int 8)
  | 3 => some (.int 8)
  | _ => none
@[simp] theorem k54cst0 : k54cst 0 = some (.int 1000000) := rfl
@[simp] theorem k54cst1 : k54cst 1 = some (.int 60) := rfl
@[simp] theorem k54cst2 : k54cst 2 = some (.int 8) := rfl
@[simp] theorem k54cst3 : k54cst 3 = some (.int 8) := rfl
theorem k54t0 : k54tab[0]? = some k54d0 := rfl
theorem k54t1 : k54tab[1]? = some k54d1 := rfl
theorem k54t2 : k54tab[2]? = some k54d2 := rfl
theorem k54t3 : k54tab[3]? = some k54d3 := rfl
theorem k54t4 : k54tab[4]? = some k54d4 := rfl
theorem k54t5 : k54tab[5]? = some k54d5 := rfl
theorem k54t6 : k54tab[6]? = some k54d6 := rfl
theorem k54t7 : k54tab[7]? = some k54d7 := rfl
theorem k54t8 : k54tab[8]? = some k54d8 := rfl
theorem k54t9 : k54tab[9]? = some k54d9 := rfl
theorem k54t10 : k54tab[10]? = some k54d10 := rfl
theorem k54t11 : k54tab[11]? = some k54d11 := rfl
theorem k54t12 : k54tab[12]? = some k54d12 := rfl
theorem k54t13 : k54tab[13]? = some k54d13 := rfl
theorem k54t14 : k54tab[14]? = some k54d14 := rfl
theorem k54t15 : k54tab[15]? = some k54d15 := rfl
theorem k54t16 : k54tab[16]? = some k54d16 := rfl
theorem k54t17 : k54tab[17]? = some k54d17 := rfl
theorem k54t18 : k54tab[18]? = some k54d18 := rfl
theorem k54t19 : k54tab[19]? = some k54d19 := rfl
theorem k54t20 : k54tab[20]? = some k54d20 := rfl
theorem k54t21 : k54tab[21]? = some k54d21 := rfl
theorem k54t22 : k54tab[22]? = some k54d22 := rfl
theorem k54t23 : k54tab[23]? = some k54d23 := rfl
theorem k54t24 : k54tab[24]? = some k54d24 := rfl
theorem k54t25 : k54tab[25]? = some k54d25 := rfl
theorem k54t26 : k54tab[26]? = some k54d26 := rfl
theorem k54t27 : k54tab[27]? = some k54d27 := rfl
theorem k54t28 : k54tab[28]? = some k54d28 := rfl
theorem k54t29 : k54tab[29]? = some k54d29 := rfl
theorem k54t30 : k54tab[30]? = some k54d30 := rfl
def k54ct : CT := ⟨["Unlike"], [("NoLock", "fault")], [("NoLock", "Unlike", false), ("Unlike", "Unlike", true), ("NoLock", "NoLock", true)], [("Unlike", "ValueError", true)], [("NoLock", "fault")]⟩
theorem k54look : k54tab.all (chkD k54fns k54cstN k54ct) = true := by decide +kernel
def k54at (k f : Nat) (args : List D) : M D := fnAt (k54tab.map Dn.fn) k54cst k f args
def k54init_NoLock : Stmt := match k54top 2 with
  | .ClassDef _ _ _ b _ _ _ _ _ _ _ => b.getD 0 (.Pass ⟨0, 0, 0, 0⟩)
  | s => s
end WB
namespace WB
open PySem L2

abbrev k54tb (k : Nat) : Tb := ⟨k54at k, k54cst⟩
theorem k54go (k f : Nat) (args : List D) (fn : Fn) (h : (k54tab.map Dn.fn)[f]? = some fn) : k54at (k + 1) f args = callM (k54tb k) fn args := by
  show (match (k54tab.map Dn.fn)[f]? with | some fn => callM ⟨fnAt (k54tab.map Dn.fn) k54cst k, k54cst⟩ fn args | none => M.bad) = _
  rw [h]
  rfl
theorem Ok_go {k f : Nat} {args : List D} {S : Store} {Q : D → Store → Prop} {X : Exn → Store → Prop} (d : Dn) (h : k54tab[f]? = some d) (hl : args.length = d.ps.length) (q : Ok (execs (k54tb k) d.body (args.map some ++ List.replicate (d.N.length - args.length) none)) S (EndF Q X) noX) : Ok (k54at (k + 1) f args) S Q X := by
  rw [k54go k f args d.fn (by rw [List.getElem?_map, h]; rfl)]
  exact Ok_call hl q
section
variable {k : Nat} {S : Store} {Q : D → Store → Prop} {X : Exn → Store → Prop}
theorem r_whole {i : Int} (q : Q (.bl true) S) : Ok (k54at (k + 1) 0 [.int i]) S Q X := by
  refine Ok_go k54d0 k54t0 rfl ?_
  simp [k54d0, k54b0]
  exact q
theorem r_from {i lo hi : Int} (q : Q (.bl (decide (lo ≤ i) && decide (i ≤ hi))) S) : Ok (k54at (k + 2) 1 [.int i, .int lo, .int hi]) S Q X := by
  refine Ok_go k54d1 k54t1 rfl ?_
  simp [k54d1, k54b1]
  refine r_whole ?_
  simp
  by_cases h : lo ≤ i <;> simp [h] at q ⊢ <;> exact q
theorem r_tuple {xs : List D} {lo hi : Int} (q : Q (.bl (decide (lo ≤ xs.length) && decide ((xs.length : Int) ≤ hi))) S) : Ok (k54at (k + 1) 2 [.tup xs, .int lo, .int hi]) S Q X := by
  refine Ok_go k54d2 k54t2 rfl ?_
  simp [k54d2, k54b2]
  by_cases h : lo ≤ xs.length <;> simp [h] at q ⊢ <;> exact q
theorem r_word {L : List Bolt} {w : List Int} (hl : L.length < sizeLine) (q : Q (.bl (wordB L w)) S) : Ok (k54at (k + 3) 3 [lockD L, wordTup w, .int L.length]) S Q X := by
  unfold wordB at q
  refine Ok_go k54d3 k54t3 rfl ?_
  simp [k54d3, k54b3, wordTup]
  refine r_tuple ?_
  by_cases h : w.length = L.length
  · simp [h] at q ⊢
    rw [zipD_map]
    refine Ok_lcAll (p := inB) (by simp; omega) (fun p hp => ?_) (by simpa using q)
    simp [lcS]
    refine r_from ?_
    simp [inB]
  · have h2 : (decide ((L.length : Int) ≤ w.length) && decide ((w.length : Int) ≤ L.length)) = false := by
      simp
      omega
    simp [h] at q
    simp [h2, q]
    intros
    omega
theorem r_rising {d : D} {l : List (List Int)} (hd : d = .tup (l.map wordTup) ∨ d = .lst (l.map wordTup)) (hl : l.length < sizeLine) (q : Q (.bl (riseB l)) S) : Ok (k54at (k + 1) 4 [d]) S Q X := by
  have sz : sizeLine = 16777216 := rfl
  refine Ok_go k54d4 k54t4 rfl ?_
  rw [riseB_at] at q
  rcases hd with rfl | rfl
  · simp [k54d4, k54b4]
    rw [rngV1_int _ (by omega)]
    simp
    refine Ok_lcAll (p := _) (by simp; omega) (fun p hp => ?_) (by simpa using q)
    have hp : p < l.length - 1 := by simpa using hp
    have h1 : l[p]? = some l[p] := List.getElem?_eq_getElem (by omega)
    have h2 : l[p + 1]? = some l[p + 1] := List.getElem?_eq_getElem (by omega)
    have a1 := atI_map (e := wordTup) h1
    have a2 : L2.atI (l.map wordTup) ((p : Int) + 1) = some (wordTup l[p + 1]) := by simpa using atI_map (e := wordTup) h2
    simp [lcS, a1, a2, wordTup, h1, h2]
  · simp [k54d4, k54b4]
    rw [rngV1_int _ (by omega)]
    simp
    refine Ok_lcAll (p := _) (by simp; omega) (fun p hp => ?_) (by simpa using q)
    have hp : p < l.length - 1 := by simpa using hp
    have h1 : l[p]? = some l[p] := List.getElem?_eq_getElem (by omega)
    have h2 : l[p + 1]? = some l[p + 1] := List.getElem?_eq_getElem (by omega)
    have a1 := atI_map (e := wordTup) h1
    have a2 : L2.atI (l.map wordTup) ((p : Int) + 1) = some (wordTup l[p + 1]) := by simpa using atI_map (e := wordTup) h2
    simp [lcS, a1, a2, wordTup, h1, h2]
theorem r_gap {L : List Bolt} {n : Int} {g : Gap} (hl : L.length < sizeLine) (hw : g.ws.length < sizeLine) (q : Q (.bl (gapB L n g)) S) : Ok (k54at (k + 4) 5 [lockD L, .int n, gapD g]) S Q X := by
  refine Ok_go k54d5 k54t5 rfl ?_
  simp [k54d5, k54b5]
  refine r_tuple ?_
  simp
  refine r_from ?_
  unfold gapB at q
  by_cases h1 : 0 ≤ g.h ∧ g.h ≤ n - 1
  · simp [h1] at q ⊢
    refine r_from ?_
    by_cases h2 : 0 ≤ g.t ∧ g.t ≤ n - 1
    · by_cases h3 : g.h = g.t
      · simp [h2, h3] at q ⊢
        exact q
      · simp [h2, h3] at q ⊢
        refine r_from ?_
        by_cases h4 : 1 ≤ g.p ∧ g.p ≤ 1000000
        · simp [h4] at q ⊢
          refine Ok_lcAll (p := wordB L) hw (fun w hw => ?_) ?_
          · simp [lcS]
            refine r_word hl ?_
            simp
          · by_cases h5 : g.ws.all (wordB L) = true
            · rw [h5] at q ⊢
              simp at q ⊢
              refine r_rising (.inl rfl) hw ?_
              simpa using q
            · rw [Bool.eq_false_iff.mpr h5] at q ⊢
              simp at q ⊢
              exact q
        · have h5 : (decide (1 ≤ g.p) && decide (g.p ≤ 1000000)) = false := by simpa using h4
          simp [h5] at q ⊢
          simp [h4, q]
    · have h5 : (decide (0 ≤ g.t) && decide (g.t ≤ n - 1)) = false := by simpa using h2
      simp [h5] at q ⊢
      simp [h2, q]
  · have h5 : (decide (0 ≤ g.h) && decide (g.h ≤ n - 1)) = false := by simpa using h1
    simp [h5] at q ⊢
    simp [h1, q]
theorem cut2 (a b c d : D) : cut [a, b, c, d] none (some 2) = [a, b] := by
  rw [show (2 : Int) = ((2 : Nat) : Int) from rfl, cut_take]
  rfl
theorem r_bolt {L : List Bolt} {b : Bolt} (hl : L.length < sizeLine) (hw : ∀ g ∈ b.gs, g.ws.length < sizeLine) (q : Q (.bl (boltB L b)) S) : Ok (k54at (k + 5) 6 [lockD L, boltD b]) S Q X := by
  have sz : sizeLine = 16777216 := rfl
  refine Ok_go k54d6 k54t6 rfl ?_
  simp [k54d6, k54b6]
  refine r_tuple ?_
  simp
  refine r_from ?_
  unfold boltB at q
  by_cases h1 : 2 ≤ b.n ∧ b.n ≤ 4
  · simp [h1] at q ⊢
    refine r_tuple ?_
    by_cases h2 : b.gs.length ≤ 12
    · have h3 : ((b.gs.length : Int) ≤ 12) := by omega
      simp [h2, h3] at q ⊢
      refine Ok_lcAll (p := gapB L b.n) (by omega) (fun g hg => ?_) ?_
      · simp [lcS]
        refine r_gap hl (hw g hg) ?_
        simp
      · by_cases h5 : b.gs.all (gapB L b.n) = true
        · rw [h5] at q ⊢
          simp at q ⊢
          refine Ok_lcMap (g := fun g => wordTup [g.h, g.t]) (by omega) (fun g hg => ?_) ?_
          · simp [lcS, cut2, wordTup]
          · refine r_rising (l := b.gs.map fun g => [g.h, g.t]) (.inr (by rw [List.map_map]; rfl)) (by simp; omega) ?_
            by_cases h6 : riseB (b.gs.map fun g => [g.h, g.t]) = true
            · rw [h6] at q ⊢
              simp at q ⊢
              refine Ok_lcMap (g := fun g => .int (g.ws.length : Int)) (by omega) (fun g hg => ?_) ?_
              · simp [lcS]
              · rw [show b.gs.map (fun g => D.int (g.ws.length : Int)) = (b.gs.map fun g => (g.ws.length : Int)).map D.int from by rw [List.map_map]; rfl, sum_own]
                have e : (b.gs.map fun g => (g.ws.length : Int)).sum = (((b.gs.map fun g => g.ws.length).sum : Nat) : Int) := by
                  generalize b.gs = l
                  induction l with
                  | nil => rfl
                  | cons a r ih => simp [ih]
                rw [e]
                simp
                have e2 : decide ((((b.gs.map fun g => g.ws.length).sum : Nat) : Int) ≤ 8) = decide ((b.gs.map fun g => g.ws.length).sum ≤ 8) := by
                  congr 1
                  exact propext (by omega)
                simpa [e2] using q
            · rw [Bool.eq_false_iff.mpr h6] at q ⊢
              simp at q ⊢
              exact q
        · rw [Bool.eq_false_iff.mpr h5] at q ⊢
          simp at q ⊢
          exact q
    · have h3 : ¬ ((b.gs.length : Int) ≤ 12) := by omega
      simp [h2] at q
      simp [h2, h3, q]
  · have h5 : (decide (2 ≤ b.n) && decide (b.n ≤ 4)) = false := by simpa using h1
    simp [h5] at q ⊢
    simp [h1, q]
theorem r_ways {b : Bolt} (hl : (waysF b).length < sizeLine) (q : Q (.own ((waysF b).map wordTup)) S) : Ok (k54at (k + 1) 7 [boltD b]) S Q X := by
  refine Ok_go k54d7 k54t7 rfl ?_
  simp [k54d7, k54b7]
  refine Ok_lcF (P := fun done acc S' => acc = (done.flatMap (·.ws)).map wordTup ∧ S' = S) ⟨rfl, rfl⟩ (fun done g rest acc S' e h => ?_) (fun acc S' h => ?_)
  · obtain ⟨rfl, rfl⟩ := h
    simp [lcS2]
    refine Ok_lcA (g := fun w => some (wordTup w)) ?_ (fun w hw => ?_) ?_
    · have : (waysF b).length = (done.flatMap (·.ws)).length + (g.ws.length + (rest.flatMap (·.ws)).length) := by unfold waysF; rw [e]; simp [List.flatMap_append, Nat.add_assoc]
      simp only [List.length_map]
      omega
    · simp [lcS, wordTup]
    · refine ⟨?_, rfl⟩
      rw [List.filterMap_eq_map']
  · obtain ⟨rfl, rfl⟩ := h
    exact q
theorem r_wide {L : List Bolt} (ok : LockOk L) (q : Q .non S) : Ok (k54at (k + 2) 8 [lockD L]) S Q X := by
  have sz : sizeLine = 16777216 := rfl
  have l60 := ok.most
  obtain ⟨gen, few, from_⟩ := ok.few
  refine Ok_go k54d8 k54t8 rfl ?_
  simp [k54d8, k54b8, sz]
  rw [rngV3_down L.length (by omega)]
  simp
  refine Ok_for (P := fun done ρ S' => S' = S ∧ ∃ (ws : List (List Int)) (o1 o2 : Option D), ρ = [some (lockD L), o1, some .non, some (.lst (ws.map wordTup)), o2] ∧ ws.length ≤ 8 ∧ ∀ v ∈ ws, v.length = L.length - done.length ∧ (∀ i ∈ v, 0 ≤ i ∧ i < 4) ∧ ∃ g ∈ gen, L.length - done.length ≤ g.length ∧ v = g.take (L.length - done.length)) ?_ (fun done j rest ρ S' e h => ?_) (fun ρ S' h => ?_)
  · exact ⟨rfl, [], none, none, rfl, by simp, by simp⟩
  · obtain ⟨rfl, ws, o1, o2, rfl, hw, hv⟩ := h
    obtain ⟨rfl, hj⟩ := range_at e
    have hk : L.length - 1 - done.length < L.length := by omega
    have hb : L[L.length - 1 - done.length]? = some L[L.length - 1 - done.length] := List.getElem?_eq_getElem hk
    have e1 : L.length - (done ++ [done.length]).length = L.length - 1 - done.length := by simp; omega
    rw [e1]
    have em : L.length - done.length = (L.length - 1 - done.length) + 1 := by omega
    rw [em] at hv
    clear em e1
    generalize L.length - 1 - done.length = m at *
    rw [forS_eq]
    simp
    refine Ok_lcMap (g := fun w => wordTup (w.take m)) (by omega) (fun w hw => ?_) ?_
    · simp [lcS, wordTup, cut_take, List.map_take]
    · simp [atI_map (e := boltD) hb]
      have wf := boltB_few (ok.bolts _ _ hb)
      refine r_ways (by omega) ?_
      have e2 : ws.map (fun w => wordTup (w.take m)) ++ (waysF L[m]).map wordTup = (ws.map (·.take m) ++ waysF L[m]).map wordTup := by simp
      simp [bin_lst (a := .own (ws.map fun w => wordTup (w.take m))) (b := .own ((waysF L[m]).map wordTup)) rfl rfl (by simp; omega)]
      rw [e2]
      have all : ∀ v ∈ ws.map (·.take m) ++ waysF L[m], v.length = m ∧ (∀ i ∈ v, 0 ≤ i ∧ i < 4) ∧ ∃ g ∈ gen, m ≤ g.length ∧ v = g.take m := fun v hv' => by
        rw [List.mem_append, List.mem_map] at hv'
        rcases hv' with ⟨u, hu, rfl⟩ | hv'
        · obtain ⟨a1, a2, g, a3, a4, a5⟩ := hv u hu
          refine ⟨by rw [List.length_take]; omega, fun i hi => a2 i (List.mem_of_mem_take hi), g, a3, by omega, ?_⟩
          rw [a5, List.take_take]
          congr 1
          omega
        · obtain ⟨a1, a2⟩ := ok.way hb hv'
          exact ⟨a1, a2, from_ m _ hb v hv'⟩
      refine sortedSet_ok (d := m) rfl (by simp; omega) (fun w hw => ⟨(all w hw).1, (all w hw).2.1⟩) ?_
      have len : (wordSort (ws.map (·.take m) ++ waysF L[m])).length ≤ 8 := by
        refine Nat.le_trans (sub_len (m := gen.map (·.take m)) (wordSort_rise _).nodup fun v hv => ?_) (by simpa using few)
        obtain ⟨_, _, g, g1, _, g2⟩ := all v (wordSort_mem.mp hv)
        exact List.mem_map.mpr ⟨g, g1, g2.symm⟩
      have nlt : ¬ (8 : Int) < ((wordSort (ws.map (·.take m) ++ waysF L[m])).length : Int) := by omega
      simp [nlt]
      exact ⟨_, rfl, len, fun v hv => all v (wordSort_mem.mp hv)⟩
  · obtain ⟨rfl, ws, o1, o2, rfl, _⟩ := h
    simpa using q
theorem r_fault {L : List Bolt} (ok : LockOk L) (q : Q .non S) : Ok (k54at (k + 6) 9 [lockD L]) S Q X := by
  have sz : sizeLine = 16777216 := rfl
  have l60 := ok.most
  have l1 := ok.least
  have l60' : (L.length : Int) ≤ 60 := by omega
  have l1' : (1 : Int) ≤ L.length := by omega
  refine Ok_go k54d9 k54t9 rfl ?_
  simp [k54d9, k54b9]
  refine r_tuple ?_
  simp [l60', l1']
  rw [enumFrom_map]
  refine Ok_for (P := fun done ρ S' => S' = S ∧ ∃ (o1 o2 o3 : Option D), ρ = [some (lockD L), o1, o2, o3]) ?_ (fun done p rest ρ S' e h => ?_) (fun ρ S' h => ?_)
  · exact ⟨rfl, _, _, _, rfl⟩
  · obtain ⟨rfl, o1, o2, o3, rfl⟩ := h
    have hp := zip_at e
    obtain ⟨h1, h2⟩ := hp
    rw [forS_eq]
    simp [h1, cut_take, ← List.map_take]
    refine r_bolt (by rw [List.length_take]; omega) (fun g hg => ?_) ?_
    · have := boltB_few (ok.bolts _ _ h2)
      have h3 : g.ws.length ≤ (waysF p.1).length := by
        unfold waysF
        rw [List.length_flatMap]
        exact le_sum (List.mem_map.mpr ⟨g, hg, rfl⟩)
      omega
    · rw [ok.bolts _ _ h2]
      simp
  · obtain ⟨rfl, o1, o2, o3, rfl⟩ := h
    simp
    refine r_wide ok ?_
    simpa using q
theorem r_must {L : List Bolt} (ok : LockOk L) (q : Q .non S) : Ok (k54at (k + 7) 10 [lockD L]) S Q X := by
  refine Ok_go k54d10 k54t10 rfl ?_
  simp [k54d10, k54b10]
  refine r_fault ok ?_
  simpa using q
end
end WB
namespace WB
open PySem L2

theorem erase_perm {α : Type} : ∀ (l : List α) (j : Nat) (h : j < l.length), (l[j] :: l.eraseIdx j).Perm l
  | x :: l, 0, _ => List.Perm.refl _
  | x :: l, j + 1, h => by
    have ih := erase_perm l j (by simpa using h)
    simp only [List.getElem_cons_succ, List.eraseIdx_cons_succ]
    exact (List.Perm.swap _ _ _).trans (ih.cons x)
def penS (c : List Int) (t d : Int) : Store := [.lst [.lst (c.map D.int), .int t, .int d]]
section
variable (c : List Int) (t d : Int) (Q : D → Store → Prop) (X : Exn → Store → Prop)
@[simp] theorem get_cells : Ok (lgetM (.ref 0) (.int 0)) (penS c t d) Q X = Q (.lst (c.map D.int)) (penS c t d) := Ok_eq _ _ _ _
@[simp] theorem get_taken : Ok (lgetM (.ref 0) (.int 1)) (penS c t d) Q X = Q (.int t) (penS c t d) := Ok_eq _ _ _ _
@[simp] theorem get_digits : Ok (lgetM (.ref 0) (.int 2)) (penS c t d) Q X = Q (.int d) (penS c t d) := Ok_eq _ _ _ _
end
section
variable (c : List Int) (t d v : Int) (Q : Unit → Store → Prop) (X : Exn → Store → Prop)
@[simp] theorem put_taken : Ok (putM (.ref 0) (.int 1) (.int v)) (penS c t d) Q X = Q () (penS c v d) := Ok_eq _ _ _ _
@[simp] theorem put_digits : Ok (putM (.ref 0) (.int 2) (.int v)) (penS c t d) Q X = Q () (penS c t v) := Ok_eq _ _ _ _
end
theorem new_pen (c : List Int) (Q : D → Store → Prop) (X : Exn → Store → Prop) : Ok (newM (.lst [.lst (c.map D.int), .int 0, .int 0])) [] Q X = Q (.ref 0) (penS c 0 0) := Ok_eq _ _ _ _
/-- a pen that has taken at most n -/
def PenOk (n : Nat) (S : Store) : Prop := ∃ c t d, S = penS c t d ∧ 0 ≤ t ∧ t ≤ n ∧ 0 ≤ d ∧ c.length ≤ 63
theorem PenOk.mono {n m : Nat} {S : Store} (h : PenOk n S) (l : n ≤ m) : PenOk m S := by
  obtain ⟨c, t, d, h1, h2, h3, h4, h5⟩ := h
  exact ⟨c, t, d, h1, h2, by omega, h4, h5⟩
theorem eq_nil (c : List Int) : eqD (.lst (c.map D.int)) (.own []) = some (decide (c = [])) := eq_nilG D.int PyData.int (fun _ => rfl) (fun _ => rfl) (n := 0) (fun _ => Nat.le_refl _) (by decide) _ c rfl
theorem eq_nilW (a : D) (ws : List (List Int)) (ha : a.list? = some (ws.map wordTup)) : eqD a (.own []) = some (decide (ws = [])) := eq_nilG wordTup wordP py_word word_lay word_depth (by decide) _ ws ha
theorem pow18 : binD .pow (.int 10) (.int 18) = some (.int 1000000000000000000) := by rfl
theorem pow6 : binD .pow (.int 10) (.int 6) = some (.int 1000000) := by rfl
theorem small_of {i : Int} (h : -(2 ^ 64) < i ∧ i < 2 ^ 64) : small i = true := by unfold small; exact decide_eq_true h
theorem bin_pow3 {i : Int} (h : 0 ≤ i ∧ i < 2147483647) : ∃ r : Int, binD .pow (.int i) (.int 3) = some (.int r) := by
  refine ⟨i ^ (3 : Int).toNat, ?_⟩
  have : i.natAbs < 2 ^ 64 := by omega
  exact if_pos ⟨by decide, by decide, this⟩
section
variable {k n : Nat} {S : Store} {Q : D → Store → Prop} {X : Exn → Store → Prop}
theorem r_pen {ns : List Int} (hn : ns.length ≤ 63) (q : Q (.ref 0) (penS ns 0 0)) : Ok (k54at (k + 1) 15 [.scr (ns.map D.int)]) [] Q X := by
  refine Ok_go k54d15 k54t15 rfl ?_
  have sz : sizeLine = 16777216 := rfl
  simp [k54d15, k54b15, sz]
  rw [show (63 : Int) = ((63 : Nat) : Int) from rfl, cut_take, List.take_of_length_le (by simpa using hn), new_pen]
  simpa using q
theorem r_draw {m : Int} (h : PenOk n S) (hn : n < 2 ^ 40) (h0 : 0 < m) (hm : m < 1073741824) (q : ∀ v S', 0 ≤ v → v < m → PenOk (n + 1) S' → Q (.int v) S') : Ok (k54at (k + 1) 16 [.ref 0, .int m]) S Q X := by
  obtain ⟨c, t, d, rfl, t0, tn, d0, c63⟩ := h
  have st : small t = true := small_of (by omega)
  have pm : ∀ (i p : Int), 0 < p → 0 ≤ i % p ∧ i % p < p := fun i p hp => ⟨Int.emod_nonneg i (by omega), Int.emod_lt_of_pos i hp⟩
  have b1 : ∀ i j, binD .mul (.int (i % 2147483629 + 13)) (.int j) = some (.int ((i % 2147483629 + 13) * j)) := fun i j => bin_mul (by rw [small_of (i := i % 2147483629 + 13) (by have := pm i 2147483629 (by omega); omega), Bool.true_or])
  have b2 : ∀ i, binD .mul (.int i) (.int t) = some (.int (i * t)) := fun i => bin_mul (by rw [st, Bool.or_true])
  have b5 : ∀ i, binD .mod (.int i) (.int 2147483629) = some (.int (i % 2147483629)) := fun i => bin_mod (by omega)
  have b6 : ∀ i, binD .mod (.int i) (.int 2147483647) = some (.int (i % 2147483647)) := fun i => bin_mod (by omega)
  have b7 : ∀ i, binD .mod (.int i) (.int 2147483587) = some (.int (i % 2147483587)) := fun i => bin_mod (by omega)
  have b8 : ∀ i, binD .mod (.int i) (.int 2147483399) = some (.int (i % 2147483399)) := fun i => bin_mod (by omega)
  have b9 : ∀ i, binD .mul (.int i) (.int 69621) = some (.int (i * 69621)) := fun i => bin_mul (by rw [small_of (i := 69621) (by omega), Bool.or_true])
  have b10 : ∀ i, binD .fdiv (.int i) (.int 64) = some (.int (i / 64)) := fun i => bin_fdiv (by omega)
  have b11 : ∀ i, binD .mod (.int i) (.int m) = some (.int (i % m)) := fun i => bin_mod h0
  have b12 : ∀ i, binD .fdiv (.int i) (.int m) = some (.int (i / m)) := fun i => bin_fdiv ⟨h0, hm⟩
  have b3 : ∀ i, ∃ r : Int, binD .pow (.int (i % 2147483647)) (.int 3) = some (.int r) := fun i => bin_pow3 (pm i 2147483647 (by omega))
  have fin : ∀ (i : Int) (c' : List Int) (t' d' : Int), 0 ≤ t' → t' ≤ n + 1 → 0 ≤ d' → c'.length ≤ 63 → Q (.int (i % m)) (penS c' t' d') := fun i c' t' d' h1 h2 h3 h4 => q _ _ (Int.emod_nonneg i (by omega)) (Int.emod_lt_of_pos i h0) ⟨c', t', d', rfl, h1, by omega, h3, h4⟩
  refine Ok_go k54d16 k54t16 rfl ?_
  by_cases hd : 0 < d
  · simp [k54d16, k54b16, pow18, eq_nil, b11, b12, hd]
    exact fin _ _ _ _ t0 (by omega) (Int.ediv_nonneg d0 (by omega)) c63
  · by_cases hc : c = []
    · subst hc
      have e0 : eqD (.lst []) (.own []) = some true := rfl
      have t1 : ¬ t < 0 := by omega
      have b14 : ∀ j, binD .mul (.int 24) (.int j) = some (.int (24 * j)) := fun j => bin_mul (by rw [small_of (i := 24) (by omega), Bool.true_or])
      obtain ⟨r, hr⟩ := b3 (24 * (t * t + 7 * t + 5))
      simp [k54d16, k54b16, pow18, eq_nil, e0, hd, t1, b1, b2, b5, b6, b14]
      rw [hr]
      simp [b2, b7, b8, b9, b10, b11]
      exact fin _ [] (t + 1) d (by omega) (by omega) d0 (by decide)
    · have cl : 0 < c.length := List.length_pos_iff.mpr hc
      have b13 : ∀ i, binD .mod (.int i) (.int (c.length : Int)) = some (.int (i % (c.length : Int))) := fun i => bin_mod (by omega)
      obtain ⟨j, hj, ej⟩ : ∃ j : Nat, j < c.length ∧ t % (c.length : Int) = (j : Int) := ⟨(t % (c.length : Int)).toNat, by have := Int.emod_lt_of_pos t (show (0 : Int) < c.length by omega); have := Int.emod_nonneg t (show (c.length : Int) ≠ 0 by omega); omega, by have := Int.emod_nonneg t (show (c.length : Int) ≠ 0 by omega); omega⟩
      have a1 := atI_map (e := D.int) (List.getElem?_eq_getElem hj)
      generalize hcell : c[j] = cell at a1
      generalize habs : (if cell < 0 then -cell else cell) = ab
      have ab0 : 0 ≤ ab := by rw [← habs]; split <;> omega
      obtain ⟨r, hr⟩ := b3 ((cell % 2147483629 + 13) * (t * t + 7 * t + 5))
      by_cases h1 : t < (c.length : Int)
      · by_cases h2 : 1000000000000000000 ≤ ab
        · simp [k54d16, k54b16, pow18, eq_nil, hd, hc, b13, ej, a1, habs, h1, h2, b11, b12]
          exact fin _ _ _ _ (by omega) (by omega) (Int.ediv_nonneg ab0 (by omega)) c63
        · simp [k54d16, k54b16, pow18, eq_nil, hd, hc, b13, ej, a1, habs, h1, h2, b1, b2, b5, b6]
          rw [hr]
          simp [b2, b7, b8, b9, b10, b11]
          exact fin _ _ _ _ (by omega) (by omega) d0 c63
      · simp [k54d16, k54b16, pow18, eq_nil, hd, hc, b13, ej, a1, habs, h1, b1, b2, b5, b6]
        rw [hr]
        simp [b2, b7, b8, b9, b10, b11]
        exact fin _ _ _ _ (by omega) (by omega) d0 c63
theorem r_pick {xs : List D} (h : PenOk n S) (hn : n < 2 ^ 40) (h0 : 0 < xs.length) (hm : xs.length < 1073741824) (hb : ∀ x ∈ xs, retV x = M.ret (.rt x)) (q : ∀ x ∈ xs, ∀ S', PenOk (n + 1) S' → Q x S') : Ok (k54at (k + 2) 17 [.ref 0, .lst xs]) S Q X := by
  refine Ok_go k54d17 k54t17 rfl ?_
  simp [k54d17, k54b17]
  refine r_draw h hn (by omega) (by omega) fun v S' v0 v1 pen => ?_
  obtain ⟨j, rfl⟩ : ∃ j : Nat, v = j := ⟨v.toNat, by omega⟩
  have hj : j < xs.length := by omega
  have a1 : L2.atI xs (j : Int) = some xs[j] := atI_nat (List.getElem?_eq_getElem hj)
  simp [a1]
  rw [hb _ (List.getElem_mem hj)]
  simp
  exact q _ (List.getElem_mem hj) S' pen
theorem r_shuf {α : Type} {enc : α → D} {f : α → PyData} (hp : ∀ x, (enc x).py = some (f x)) (hl : ∀ x, (f x).canLay0 = true) {dp : Nat} (hd : ∀ x, (f x).depth ≤ dp) (hdp : dp ≤ 60) {xs : List α} (h : PenOk n S) (hn : n + xs.length < 2 ^ 40) (hx : xs.length < 1000) (q : ∀ (ys : List α) (S' : Store), ys.Perm xs → PenOk (n + xs.length) S' → Q (.own (ys.map enc)) S') : Ok (k54at (k + 2) 18 [.ref 0, .lst (xs.map enc)]) S Q X := by
  have sz : sizeLine = 16777216 := rfl
  refine Ok_go k54d18 k54t18 rfl ?_
  simp [k54d18, k54b18]
  refine Ok_whl (P := fun m ρ S' => ∃ left found : List α, m = left.length ∧ ρ = [some (.ref 0), some (.lst (xs.map enc)), some (.own (left.map enc)), some (.own (found.map enc))] ∧ (left ++ found).Perm xs ∧ PenOk (n + found.length) S') ?_ 1000 xs.length _ _ hx ⟨xs, [], rfl, rfl, by simp, h⟩
  intro m ρ S' hP
  obtain ⟨left, found, rfl, rfl, pm, pen⟩ := hP
  have pl : left.length + found.length = xs.length := by have := pm.length_eq; simpa using this
  have en : eqD (.bor (left.map enc)) (.own []) = some (decide (left = [])) := eq_nilG enc f hp hl hd hdp _ left rfl
  by_cases hc : left = []
  · subst hc
    have e0 : eqD (.bor []) (.own []) = some true := rfl
    simp [e0]
    have : found.length = xs.length := by simpa using pl
    rw [this] at pen
    exact q found S' (by simpa using pm) pen
  · have cl : 0 < left.length := List.length_pos_iff.mpr hc
    simp [en, hc]
    refine r_draw pen (by omega) (by omega) (by omega) fun v S2 v0 v1 pen2 => ?_
    obtain ⟨j, rfl⟩ : ∃ j : Nat, v = j := ⟨v.toNat, by omega⟩
    have hj : j < left.length := by omega
    rw [popV_ok (List.getElem?_eq_getElem hj) (by simp; omega) (by omega)]
    simp
    refine ⟨(left.eraseIdx j).length, ?_, left.eraseIdx j, rfl, found ++ [left[j]], ⟨rfl, by simp⟩, ?_, pen2.mono (by simp; omega)⟩
    · rw [List.length_eraseIdx_of_lt hj]; omega
    · refine List.Perm.trans ?_ pm
      have e1 : (left[j] :: left.eraseIdx j).Perm left := erase_perm left j hj
      refine List.Perm.trans ?_ (e1.append_right found)
      rw [← List.append_assoc]
      exact (List.perm_append_comm).trans (by simp)
end
end WB
namespace WB
open PySem L2

section
variable {k n : Nat} {S : Store} {Q : D → Store → Prop} {X : Exn → Store → Prop}
theorem r_price {dear : Int} (h : PenOk n S) (hn : n < 2 ^ 39) (h0 : 1 ≤ dear) (h1 : dear ≤ 1000000) (q : ∀ p S', 1 ≤ p → p ≤ 1000000 → PenOk (n + 3) S' → Q (.int p) S') : Ok (k54at (k + 3) 19 [.ref 0, .int dear]) S Q X := by
  have sz : sizeLine = 16777216 := rfl
  refine Ok_go k54d19 k54t19 rfl ?_
  simp [k54d19, k54b19]
  refine r_draw h (by omega) (by omega) (by omega) fun a S1 a0 a1 pen1 => ?_
  simp
  refine r_draw pen1 (by omega) (by omega) (by omega) fun b S2 b0 b1 pen2 => ?_
  simp [sz]
  have all : ∀ x ∈ [D.int 1, D.int 1, D.int 2, D.int 3, D.int (1 + a), D.int (1 + b)], ∃ p : Int, x = .int p ∧ 1 ≤ p ∧ p ≤ 1000000 := fun x hx => by
    simp only [List.mem_cons, List.not_mem_nil, or_false] at hx
    rcases hx with rfl | rfl | rfl | rfl | rfl | rfl
    all_goals exact ⟨_, rfl, by omega, by omega⟩
  refine r_pick pen2 (by omega) (by simp) (by simp) (fun x hx => ?_) (fun x hx S3 pen3 => ?_)
  · obtain ⟨p, rfl, _⟩ := all x hx
    rfl
  · obtain ⟨p, rfl, p1, p2⟩ := all x hx
    simp
    exact q p S3 p1 p2 pen3
theorem r_bases {ns : List Nat} {most : Nat} (h : PenOk n S) (hn : n < 2 ^ 39) (hm : 1 ≤ most ∧ most ≤ 8) (n4 : ∀ x ∈ ns, 2 ≤ x ∧ x ≤ 4) (l60 : ns.length ≤ 60) (q : ∀ (bs : List (List Int)) (S' : Store), 1 ≤ bs.length → bs.length ≤ most → (∀ w ∈ bs, WordN ns w) → PenOk (n + 1 + 60 * most) S' → Q (.own (bs.map wordTup)) S') : Ok (k54at (k + 2) 20 [.ref 0, .lst (ns.map natD), .int most]) S Q X := by
  have sz : sizeLine = 16777216 := rfl
  refine Ok_go k54d20 k54t20 rfl ?_
  simp [k54d20, k54b20, sz]
  refine r_draw h (by omega) (by omega) (by omega) fun nb S2 nb0 nb1 pen2 => ?_
  obtain ⟨nb, rfl⟩ : ∃ j : Nat, nb = j := ⟨nb.toNat, by omega⟩
  simp
  rw [show (1 : Int) + (nb : Int) = ((1 + nb : Nat) : Int) by omega, rngV1_nat (1 + nb) (by omega)]
  simp
  obtain ⟨P, hP⟩ : ∃ P : List Nat → Env → Store → Prop, P = fun done ρ S' => PenOk (n + 1 + 60 * done.length) S' ∧ ∃ (bs : List (List Int)) (o4 o5 : Option D), ρ = [some (.ref 0), some (.lst (ns.map natD)), some (.int most), some (.own (bs.map wordTup)), o4, o5] ∧ bs.length = done.length ∧ ∀ w ∈ bs, WordN ns w := ⟨_, rfl⟩
  refine Ok_for (P := P) ?_ (fun done i rest ρ S' e h => ?_) (fun ρ S' h => ?_)
  · rw [hP]
    exact ⟨pen2, [], none, none, rfl, rfl, by simp⟩
  · rw [hP] at h
    obtain ⟨pen, bs, o4, o5, rfl, bl, bw⟩ := h
    obtain ⟨rfl, hi⟩ := range_at e
    rw [forS_eq]
    simp
    refine Ok_lcM (P := fun d2 acc S' => PenOk (n + 1 + 60 * done.length + d2.length) S' ∧ ∃ w, acc = w.map D.int ∧ WordN d2 w) (by omega) ⟨pen, [], rfl, rfl, by simp⟩ (fun d2 x r2 acc S' e2 h => ?_) (fun acc S' h => ?_)
    · obtain ⟨pen, w, rfl, hw⟩ := h
      have ll : ns.length = d2.length + (r2.length + 1) := by rw [e2]; simp
      have x4 := n4 x (by rw [e2]; simp)
      simp [lcS]
      refine r_draw pen (by omega) (by omega) (by omega) fun v S2 v0 v1 pen2 => ?_
      exact ⟨pen2, w ++ [v], by simp, hw.snoc ⟨v0, v1⟩⟩
    · obtain ⟨pen, w, rfl, hw⟩ := h
      simp [appV, sz]
      refine ⟨by omega, ?_⟩
      rw [hP]
      refine ⟨pen.mono (by simp; omega), bs ++ [w], some (.int done.length), o5, by simp [wordTup], by simp [bl], fun v hv => ?_⟩
      rcases List.mem_append.mp hv with hv | hv
      · exact bw v hv
      · rw [List.mem_singleton.mp hv]
        exact hw
  · rw [hP] at h
    obtain ⟨pen, bs, o4, o5, rfl, bl, bw⟩ := h
    rw [List.length_range] at bl pen
    have l1 : 1 + nb ≤ most := by omega
    simp
    exact q bs S' (by omega) (by omega) bw (pen.mono (by omega))
theorem r_cuts {ws : List (List Int)} {m : Nat} (hw : ws.length < 1000) (q : ∀ us : List (List Int), us.Nodup → (∀ u ∈ us, ∃ w ∈ ws, u = w.take m) → us.length ≤ ws.length → Q (.own (us.map wordTup)) S) : Ok (k54at (k + 1) 21 [.lst (ws.map wordTup), .int m]) S Q X := by
  have sz : sizeLine = 16777216 := rfl
  refine Ok_go k54d21 k54t21 rfl ?_
  simp [k54d21, k54b21, sz]
  obtain ⟨P, hP⟩ : ∃ P : List (List Int) → Env → Store → Prop, P = fun done ρ S' => S' = S ∧ ∃ (us : List (List Int)) (o3 : Option D), ρ = [some (.lst (ws.map wordTup)), some (.int m), some (.own (us.map wordTup)), o3] ∧ us.Nodup ∧ (∀ u ∈ us, ∃ w ∈ done, u = w.take m) ∧ us.length ≤ done.length := ⟨_, rfl⟩
  refine Ok_for (P := P) ?_ (fun done w rest ρ S' e h => ?_) (fun ρ S' h => ?_)
  · rw [hP]
    exact ⟨rfl, [], none, rfl, List.nodup_nil, by simp, by simp⟩
  · rw [hP] at h
    obtain ⟨rfl, us, o3, rfl, nd, all, len⟩ := h
    have wl : ws.length = done.length + (rest.length + 1) := by rw [e]; simp
    have mm := mem_wordsL (w.take m) us (.bor (us.map wordTup)) rfl
    have al : ∀ u ∈ us, ∃ v ∈ done ++ [w], u = v.take m := fun u hu => let ⟨v, h1, h2⟩ := all u hu; ⟨v, List.mem_append_left _ h1, h2⟩
    rw [forS_eq]
    by_cases hc : w.take m ∈ us
    · simp [sl_take, mm, hc]
      rw [hP]
      exact ⟨rfl, us, _, rfl, nd, al, by simp; omega⟩
    · simp [sl_take, mm, hc, appV, sz]
      refine ⟨by omega, ?_⟩
      rw [hP]
      refine ⟨rfl, us ++ [w.take m], some (wordTup w), by simp, ?_, ?_, by simp; omega⟩
      · exact List.nodup_append.mpr ⟨nd, by simp, fun a ha b hb => by rw [List.mem_singleton.mp hb]; exact fun z => hc (z ▸ ha)⟩
      · intro u hu
        rcases List.mem_append.mp hu with hu | hu
        · exact al u hu
        · exact ⟨w, by simp, List.mem_singleton.mp hu⟩
  · rw [hP] at h
    obtain ⟨rfl, us, o3, rfl, nd, all, len⟩ := h
    simp
    exact q us nd all len
end
end WB
namespace WB
open PySem L2

theorem filterMap_pairs (i : Int) : ∀ l : List Nat, l.filterMap (fun (j : Nat) => if (j : Int) = i then none else some (wordTup [i, (j : Int)])) = ((l.filter fun (j : Nat) => !decide ((j : Int) = i)).map fun (j : Nat) => [i, (j : Int)]).map wordTup
  | [] => rfl
  | j :: l => by
    rw [List.filterMap_cons, List.filter_cons, filterMap_pairs i l]
    by_cases h : (j : Int) = i <;> simp [h]
/-- pairs of unlike places, the first below m -/
def PairsI (N m : Nat) (ps : List (List Int)) : Prop := ps.Nodup ∧ ∀ v ∈ ps, ∃ a b : Nat, v = [(a : Int), (b : Int)] ∧ a < m ∧ b < N ∧ a ≠ b
theorem PairsI.len {N m : Nat} {ps : List (List Int)} (h : PairsI N m ps) (hN : N ≤ 4) (hm : m ≤ N) : ps.length ≤ 12 :=
  sub_len (m := pairs12) h.1 fun v hv => by
    obtain ⟨a, b, rfl, h1, h2, h3⟩ := h.2 v hv
    exact mem12 ⟨by omega, by omega⟩ ⟨by omega, by omega⟩ (by omega)
theorem PairsI.next {N m : Nat} {ps : List (List Int)} (h : PairsI N m ps) (hm : m < N) : PairsI N (m + 1) (ps ++ ((List.range N).filter fun (j : Nat) => !decide ((j : Int) = (m : Int))).map fun (j : Nat) => [(m : Int), (j : Int)]) := by
  refine ⟨List.nodup_append.mpr ⟨h.1, ?_, fun a ha b hb => ?_⟩, fun v hv => ?_⟩
  · refine List.pairwise_map.mpr (((List.nodup_range).filter _).imp fun {a b} n z => n ?_)
    simp at z
    omega
  · obtain ⟨x, y, rfl, h1, _⟩ := h.2 a ha
    obtain ⟨j, _, rfl⟩ := List.mem_map.mp hb
    intro z
    simp at z
    omega
  · rcases List.mem_append.mp hv with hv | hv
    · obtain ⟨x, y, rfl, h1, h2, h3⟩ := h.2 v hv
      exact ⟨x, y, rfl, by omega, h2, h3⟩
    · obtain ⟨j, hj, rfl⟩ := List.mem_map.mp hv
      obtain ⟨h1, h2⟩ := List.mem_filter.mp hj
      have h1 : j < N := by simpa using h1
      have h2 : ¬ (j : Int) = (m : Int) := by simpa using h2
      exact ⟨m, j, rfl, by omega, h1, by omega⟩
section
variable {k n : Nat} {S : Store} {Q : D → Store → Prop} {X : Exn → Store → Prop}
theorem r_gaps {N d : Nat} {words : List (List Int)} {dear : Int} (h : PenOk n S) (hn : n < 2 ^ 38) (hN : N ≤ 4) (hw : words.length ≤ 8) (nd : words.Nodup) (hd : ∀ w ∈ words, w.length = d) (h0 : 1 ≤ dear) (h1 : dear ≤ 1000000) (q : ∀ gs S', GapsS N words gs → Rise (gs.map gapK) → PenOk (n + 256) S' → Q (.tup (gs.map gapD)) S') : Ok (k54at (k + 4) 23 [.ref 0, .int N, .lst (words.map wordTup), .int dear]) S Q X := by
  have sz : sizeLine = 16777216 := rfl
  have hd0 : ∀ us : List (List Int), us.Nodup → (∀ u ∈ us, u ∈ words) → 1 ≤ d ∨ us.length ≤ 1 := fun us un um => by
    by_cases z : 1 ≤ d
    · exact .inl z
    · right
      have := sub_len (m := [[]]) un fun v hv => by
        have := hd v (um v hv)
        have : v = [] := List.length_eq_zero_iff.mp (by omega)
        simp [this]
      simpa using this
  refine Ok_go k54d23 k54t23 rfl ?_
  simp [k54d23, k54b23, sz]
  rw [rngV1_nat N (by omega)]
  simp
  obtain ⟨P, hP⟩ : ∃ P : List Nat → Env → Store → Prop, P = fun done ρ S' => S' = S ∧ ∃ (ps : List (List Int)) (o4 o8 : Option D), ρ = [some (.ref 0), some (.int N), some (.lst (words.map wordTup)), some (.int dear), o4, some (.lst (ps.map wordTup)), some (.own []), some (.int 8), o8, none] ∧ PairsI N done.length ps := ⟨_, rfl⟩
  refine Ok_for (P := P) ?_ (fun done i rest ρ S' e h => ?_) (fun ρ S' h => ?_)
  · rw [hP]
    exact ⟨rfl, [], none, none, rfl, List.nodup_nil, by simp⟩
  · rw [hP] at h
    obtain ⟨rfl, ps, o4, o8, rfl, pi⟩ := h
    obtain ⟨rfl, hi⟩ := range_at e
    have p12 := pi.len hN (by omega)
    rw [forS_eq]
    simp
    rw [rngV1_nat N (by omega)]
    simp
    refine Ok_lcP (g := fun (j : Nat) => if (j : Int) = (done.length : Int) then none else some (wordTup [(done.length : Int), (j : Int)])) (by simp; omega) (fun j hj => ?_) ?_
    · by_cases z : (j : Int) = (done.length : Int)
      · simp [lcS, z]
      · simp [lcS, z, wordTup, sz]
    · rw [filterMap_pairs]
      have nx := pi.next hi
      have n12 := nx.len hN (by omega)
      rw [List.length_append] at n12
      rw [bin_lst rfl rfl (by simp only [List.length_map] at n12 ⊢; omega), ← List.map_append]
      have nx' : PairsI N (done ++ [done.length]).length (ps ++ ((List.range N).filter fun (j : Nat) => !decide ((j : Int) = (done.length : Int))).map fun (j : Nat) => [(done.length : Int), (j : Int)]) := by
        rw [List.length_append, List.length_singleton]
        exact nx
      generalize (ps ++ ((List.range N).filter fun (j : Nat) => !decide ((j : Int) = (done.length : Int))).map fun (j : Nat) => [(done.length : Int), (j : Int)]) = ps' at *
      simp
      rw [hP]
      exact ⟨rfl, ps', _, _, rfl, nx'⟩
  · rw [hP] at h
    obtain ⟨rfl, ps, o4, o8, rfl, pi⟩ := h
    rw [List.length_range] at pi
    have p12 := pi.len hN (by omega)
    simp
    refine r_shuf py_word word_lay word_depth (by decide) h (by omega) (by omega) fun ys S2 perm pen2 => ?_
    simp
    have y12 : ys.length ≤ 12 := by rw [perm.length_eq]; exact p12
    obtain ⟨P2, hP2⟩ : ∃ P2 : List (List Int) → Env → Store → Prop, P2 = fun done ρ S2 => PenOk (n + 12 + 16 * done.length) S2 ∧ ∃ (gs : List Gap) (o4 o8 o9 : Option D), ρ = [some (.ref 0), some (.int N), some (.lst (words.map wordTup)), some (.int dear), o4, some (.lst (ps.map wordTup)), some (.own (gs.map gapD)), some (.int (8 - ((gs.map fun g => g.ws.length).sum : Nat))), o8, o9] ∧ GapsS N words gs ∧ ∀ g ∈ gs, gapK g ∈ done := ⟨_, rfl⟩
    refine Ok_for (P := P2) ?_ (fun done v rest ρ S3 e h => ?_) (fun ρ S3 h => ?_)
    · rw [hP2]
      exact ⟨pen2.mono (by omega), [], o4, o8, none, rfl, ⟨by simp, by simp, List.nodup_nil⟩, by simp⟩
    · rw [hP2] at h
      obtain ⟨pen, gs, o4, o8, o9, rfl, gi, gd⟩ := h
      have ylen : ys.length = done.length + (rest.length + 1) := by rw [e]; simp
      obtain ⟨a, b, rfl, ha, hb, hab⟩ := pi.2 v (perm.mem_iff.mp (by rw [e]; simp))
      have ynd : ys.Nodup := perm.nodup_iff.mpr pi.1
      have vn : [(a : Int), (b : Int)] ∉ done := fun z => by
        rw [e] at ynd
        exact (List.nodup_append.mp ynd).2.2 _ z _ List.mem_cons_self rfl
      have g12 := gi.len hN
      have fin : ∀ (gs : List Gap) (S3 : Store) (o4 o8 o9 : Option D), PenOk (n + 12 + 16 * done.length + 16) S3 → GapsS N words gs → (∀ g ∈ gs, gapK g ∈ done ++ [[(a : Int), (b : Int)]]) → P2 (done ++ [[(a : Int), (b : Int)]]) [some (.ref 0), some (.int N), some (.lst (words.map wordTup)), some (.int dear), o4, some (.lst (ps.map wordTup)), some (.own (gs.map gapD)), some (.int (8 - ((gs.map fun g => g.ws.length).sum : Nat))), o8, o9] S3 := fun gs S3 o4 o8 o9 p g1 g2 => by
        rw [hP2]
        exact ⟨p.mono (by simp; omega), gs, o4, o8, o9, rfl, g1, g2⟩
      rw [forS_eq]
      simp [wordTup]
      refine r_draw pen (by omega) (by omega) (by omega) fun u S4 u0 u1 pen4 => ?_
      by_cases hu : 0 < u
      · simp [hu]
        refine r_shuf py_word word_lay word_depth (by decide) pen4 (by omega) (by omega) fun zs S5 perm5 pen5 => ?_
        have znd : zs.Nodup := perm5.nodup_iff.mpr nd
        have zm : ∀ z ∈ zs, z ∈ words := fun z hz => perm5.mem_iff.mp hz
        simp [sz]
        refine r_pick pen5 (by omega) (by simp) (by simp) (fun x hx => ?_) (fun x hx S6 pen6 => ?_)
        · simp only [List.mem_cons, List.not_mem_nil, or_false] at hx
          rcases hx with rfl | rfl | rfl | rfl | rfl <;> rfl
        · obtain ⟨j, rfl⟩ : ∃ j : Nat, x = .int j := by
            simp only [List.mem_cons, List.not_mem_nil, or_false] at hx
            rcases hx with rfl | rfl | rfl | rfl | rfl
            · exact ⟨1, rfl⟩
            · exact ⟨1, rfl⟩
            · exact ⟨2, rfl⟩
            · exact ⟨2, rfl⟩
            · exact ⟨0, rfl⟩
          simp
          rw [cut_take, ← List.map_take]
          have tnd : (zs.take j).Nodup := znd.sublist (List.take_sublist _ _)
          have tm : ∀ z ∈ zs.take j, z ∈ words := fun z hz => zm z (List.mem_of_mem_take hz)
          have sw := sortedW (hd0 _ tnd tm) (fun w hw => hd w (tm w hw))
          rw [sorted_ok (d := .own ((zs.take j).map wordTup)) (seq_own _) sw]
          have rise := sortW_rise tnd
          have sm : ∀ w ∈ sortL HT.lexLt (zs.take j), w ∈ words := fun w hw => tm w ((sortL_perm _).mem_iff.mp hw)
          have s8 := gi.few
          generalize hs : (gs.map fun g => g.ws.length).sum = s at *
          simp
          rw [show (8 : Int) - (s : Int) = ((8 - s : Nat) : Int) by omega, cut_take, ← List.map_take]
          have rT : Rise ((sortL HT.lexLt (zs.take j)).take (8 - s)) := List.Pairwise.sublist (List.take_sublist _ _) rise
          have lT : ((sortL HT.lexLt (zs.take j)).take (8 - s)).length ≤ 8 - s := by rw [List.length_take]; omega
          have mT : ∀ w ∈ (sortL HT.lexLt (zs.take j)).take (8 - s), w ∈ words := fun w hw => sm w (List.mem_of_mem_take hw)
          generalize (sortL HT.lexLt (zs.take j)).take (8 - s) = us at *
          simp
          refine r_price pen6 (by omega) h0 h1 fun p S7 p1 p2 pen7 => ?_
          have ni : GapsS N words (gs ++ [⟨a, b, p, us⟩]) := by
            refine ⟨fun g hg => ?_, ?_, ?_⟩
            · rcases List.mem_append.mp hg with hg | hg
              · exact gi.at_ g hg
              · obtain rfl := List.mem_singleton.mp hg
                exact ⟨⟨by simp, by simp only; omega⟩, ⟨by simp, by simp only; omega⟩, by simp only; omega, p1, p2, rT, mT⟩
            · rw [List.map_append, List.sum_append, hs]
              simp
              omega
            · rw [List.map_append]
              refine List.nodup_append.mpr ⟨gi.nd, by simp, fun x hx y hy => ?_⟩
              obtain ⟨g, hg, rfl⟩ := List.mem_map.mp hx
              rw [List.map_singleton, List.mem_singleton] at hy
              rw [hy]
              exact fun z => vn (by have := gd g hg; rw [z] at this; exact this)
          have fi := fin _ S7 (some (.int a)) (some (.int b)) (some (.own (us.map wordTup))) (pen7.mono (by omega)) ni (fun g hg => by
            rcases List.mem_append.mp hg with hg | hg
            · exact List.mem_append_left _ (gd g hg)
            · obtain rfl := List.mem_singleton.mp hg
              simp [gapK])
          rw [List.map_append, List.map_append, List.sum_append, hs] at fi
          simp [appV, sz]
          refine ⟨by omega, ?_⟩
          simp [wordTup] at fi
          have e8 : ((8 - s : Nat) : Int) - us.length = 8 - ((s : Int) + (us.length : Int)) := by omega
          rw [e8]
          exact fi
      · simp [hu]
        exact fin _ _ _ _ _ (pen4.mono (by omega)) gi (fun g hg => List.mem_append_left _ (gd g hg))
    · rw [hP2] at h
      obtain ⟨pen, gs, o4, o8, o9, rfl, gi, gd⟩ := h
      have sg := sortedG gi.nd
      simp
      rw [sorted_ok (d := .bor (gs.map gapD)) rfl sg]
      simp
      exact q _ S3 (gi.perm (sortL_perm _)) (sortG_rise gi.nd) (pen.mono (by omega))
theorem r_many {low : Int} (h : PenOk n S) (hn : n < 2 ^ 39) (hl : 0 ≤ low ∧ low ≤ 7) (q : ∀ m S', low ≤ m → m ≤ 60 → PenOk (n + 2) S' → Q (.int m) S') : Ok (k54at (k + 2) 22 [.ref 0, .int low]) S Q X := by
  have sz : sizeLine = 16777216 := rfl
  refine Ok_go k54d22 k54t22 rfl ?_
  simp [k54d22, k54b22, sz]
  refine r_draw h (by omega) (by omega) (by omega) fun a S1 a0 a1 pen1 => ?_
  obtain ⟨x, hx, hx2⟩ : ∃ x : Int, L2.atI [D.int (8 - low), D.int (8 - low), D.int (8 - low), D.int (61 - low)] a = some (.int x) ∧ (x = 8 - low ∨ x = 61 - low) := by
    obtain rfl | rfl | rfl | rfl : a = 0 ∨ a = 1 ∨ a = 2 ∨ a = 3 := by omega
    · exact ⟨_, atI0 _ _, .inl rfl⟩
    · exact ⟨_, atI1 _ _ _, .inl rfl⟩
    · exact ⟨_, atI2 _ _ _ _, .inl rfl⟩
    · exact ⟨_, atI3 _ _ _ _ _, .inr rfl⟩
  simp [hx]
  refine r_draw pen1 (by omega) (by omega) (by omega) fun b S2 b0 b1 pen2 => ?_
  simp
  exact q _ S2 (by omega) (by omega) pen2
end
end WB
namespace WB
open PySem L2

section
variable {k n : Nat} {S : Store} {Q : D → Store → Prop} {X : Exn → Store → Prop}
theorem r_lock {m W : Nat} {dear : Int} (h : PenOk n S) (hn : n < 2 ^ 37) (m1 : 1 ≤ m) (m60 : m ≤ 60) (hW : 2 ≤ W ∧ W ≤ 4) (h0 : 1 ≤ dear) (h1 : dear ≤ 1000000) (q : ∀ L S', LockOk L → L.length = m → PenOk (n + 32768) S' → Q (lockD L) S') : Ok (k54at (k + 5) 24 [.ref 0, .int m, .int W, .int dear]) S Q X := by
  have sz : sizeLine = 16777216 := rfl
  refine Ok_go k54d24 k54t24 rfl ?_
  simp [k54d24, k54b24, sz]
  rw [rngV1_nat m (by omega)]
  simp
  refine Ok_lcM (P := fun done acc S' => PenOk (n + done.length) S' ∧ ∃ ns : List Nat, ns.length = done.length ∧ acc = ns.map natD ∧ ∀ x ∈ ns, 2 ≤ x ∧ x ≤ 4) (by simp; omega) ⟨h, [], rfl, rfl, by simp⟩ (fun done b rest acc S' e h => ?_) (fun acc S1 h => ?_)
  · obtain ⟨pen, ns, nl, rfl, n4⟩ := h
    obtain ⟨rfl, hb⟩ := range_at e
    simp [lcS]
    refine r_draw pen (by omega) (by omega) (by omega) fun v S2 v0 v1 pen2 => ?_
    simp
    refine ⟨pen2, ns ++ [2 + v.toNat], by simp [nl], ?_, fun x hx => ?_⟩
    · simp
      omega
    · rcases List.mem_append.mp hx with hx | hx
      · exact n4 x hx
      · have := List.mem_singleton.mp hx
        omega
  · obtain ⟨pen, ns, nl, rfl, n4⟩ := h
    rw [List.length_range] at nl pen
    refine r_bases (most := 3) pen (by omega) (by omega) n4 (by omega) fun bases S3 b1 bl3 bw pen3 => ?_
    simp
    rw [rngV1_nat m (by omega)]
    simp
    obtain ⟨P, hP⟩ : ∃ P : List Nat → Env → Store → Prop, P = fun done ρ S' => PenOk (n + 256 + 320 * done.length) S' ∧ ∃ (mo : Int) (B : List Bolt) (o5 o9 o10 : Option D), ρ = [some (.ref 0), some (.int m), some (.int W), some (.int dear), some (.lst (bases.map wordTup)), o5, some (.lst (ns.map natD)), some (.own (B.map boltD)), some (.int mo), o9, o10] ∧ B.length = done.length ∧ 0 ≤ mo ∧ BoltsS ns bases mo B := ⟨_, rfl⟩
    refine Ok_for (P := P) ?_ (fun done i rest ρ S' e h => ?_) (fun ρ S' h => ?_)
    · rw [hP]
      refine ⟨pen3.mono (by omega), 4, [], none, none, none, rfl, rfl, by omega, rfl, (fun k b z => by simp at z), bases, by omega, (fun w hw => hw), (fun k b z => by simp at z)⟩
    · rw [hP] at h
      obtain ⟨pen, mo, B, o5, o9, o10, rfl, hB, mo0, bi⟩ := h
      obtain ⟨rfl, hi⟩ := range_at e
      have hi2 : done.length < ns.length := by omega
      have hN : ns[done.length]? = some ns[done.length] := List.getElem?_eq_getElem hi2
      have N4 := n4 _ (List.getElem_mem hi2)
      have aN := atI_map (e := natD) hN
      have tl : (ns.take done.length).length = done.length := by rw [List.length_take]; omega
      have bi' := fun (extra words : List (List Int)) (mo' : Int) (hm : mo' + extra.length ≤ mo) (he : ∀ w ∈ extra, WordN (ns.take done.length) w) (hx : ∀ w ∈ words, (∃ b ∈ bases, w = b.take done.length) ∨ w ∈ extra) (gs : List Gap) (hg : GapsS ns[done.length] words gs) (hr : Rise (gs.map gapK)) => bi.snoc (N := ns[done.length]) (by rw [hB]; exact hN) N4.1 N4.2 bw hm (by rw [hB]; exact he) (by rw [hB]; exact hx) hg hr
      have wlen : ∀ w : List Int, (∃ b ∈ bases, w = b.take done.length) → w.length = done.length := fun w ⟨b, hb, e⟩ => by
        rw [e, List.length_take, (bw b hb).1]
        omega
      have fin : ∀ (mo' : Int) (words : List (List Int)) (S4 : Store) (o10 : Option D), PenOk (n + 256 + 320 * done.length + 61) S4 → 0 ≤ mo' → words.length ≤ 4 → words.Nodup → (∀ w ∈ words, w.length = done.length) → (∀ gs, GapsS ns[done.length] words gs → Rise (gs.map gapK) → BoltsS ns bases mo' (B ++ [⟨ns[done.length], gs⟩])) →
          Ok (execs (k54tb (k + 4)) (.cons (.app 7 (.tup (.cons (.sub (.var 6) (.var 5)) (.cons (.call 23 (.cons (.var 0) (.cons (.sub (.var 6) (.var 5)) (.cons (.var 9) (.cons (.var 3) .nil))))) .nil)))) .nil) [some (.ref 0), some (.int m), some (.int W), some (.int dear), some (.lst (bases.map wordTup)), some (.int done.length), some (.lst (ns.map natD)), some (.own (B.map boltD)), some (.int mo'), some (.lst (words.map wordTup)), o10]) S4 (Lp (Nx (EndF Q X) noX (execs (k54tb (k + 4)) (.cons (.ret (.bi .tuple (.var 7))) .nil))) (P (done ++ [done.length]))) noX := fun mo' words S4 o10 pen4 m0 w4 wn wd nx => by
        simp [aN]
        refine r_gaps (d := done.length) pen4 (by omega) N4.2 (by omega) wn wd h0 h1 fun gs S5 hg hr pen5 => ?_
        simp [appV, sz]
        refine ⟨by omega, ?_⟩
        rw [hP]
        exact ⟨pen5.mono (by simp; omega), mo', B ++ [⟨ns[done.length], gs⟩], _, _, _, by rw [List.map_append]; rfl, by simp [hB], m0, nx gs hg hr⟩
      rw [forS_eq]
      simp only [asg_name, List.length_cons, List.length_nil]
      simp (config := { zeta := false }) only [Nat.reduceAdd, Nat.reduceLT, if_true, forO_some, List.set_cons_succ, List.set_cons_zero]
      simp
      refine r_cuts (by omega) fun us un um ul => ?_
      simp
      have us4 : us.length ≤ 3 := by omega
      by_cases hm : 0 < done.length ∧ 0 < mo
      · have c1 : (0 : Int) < (done.length : Int) := by omega
        simp [hm.1, c1, hm.2]
        refine r_draw pen (by omega) (by omega) (by omega) fun v S4 v0 v1 pen4 => ?_
        by_cases hv : v = 0
        · simp [hv, cut_take, ← List.map_take]
          refine Ok_lcM (P := fun d2 acc S' => PenOk (n + 256 + 320 * done.length + 1 + d2.length) S' ∧ ∃ w, acc = w.map D.int ∧ WordN d2 w) (by omega) ⟨pen4, [], rfl, rfl, by simp⟩ (fun d2 x r2 acc S' e2 h => ?_) (fun acc S6 h => ?_)
          · obtain ⟨pen, w, rfl, hw⟩ := h
            have ll : (ns.take done.length).length = d2.length + (r2.length + 1) := by rw [e2]; simp
            have x4 := n4 x (List.mem_of_mem_take (by rw [e2]; simp : x ∈ ns.take done.length))
            simp [lcS]
            refine r_draw pen (by omega) (by omega) (by omega) fun v S2 v0 v1 pen2 => ?_
            exact ⟨pen2, w ++ [v], by simp, hw.snoc ⟨v0, v1⟩⟩
          · obtain ⟨pen6, w, rfl, hw⟩ := h
            have e1 : binD .add (.lst (us.map wordTup)) (.own [.tup (w.map D.int)]) = some (.own ((us ++ [w]).map wordTup)) := by
              rw [bin_lst rfl rfl (by simp; omega), List.map_append]
              rfl
            simp [sz]
            rw [e1]
            simp only [Ok_some, hand_own, Ok_ret, Ok_bnd]
            refine r_cuts (by simp; omega) fun vs vn vm vl => ?_
            simp only [Ok_ret, setI_own]
            simp
            have ww : w.take done.length = w := by rw [List.take_of_length_le]; rw [hw.1, tl]; exact Nat.le_refl _
            have vx : ∀ u ∈ vs, (∃ b ∈ bases, u = b.take done.length) ∨ u ∈ [w] := fun u hu => by
              obtain ⟨x, hx, rfl⟩ := vm u hu
              rcases List.mem_append.mp hx with hx | hx
              · obtain ⟨b, hb, rfl⟩ := um x hx
                exact .inl ⟨b, hb, by rw [List.take_take, Nat.min_self]⟩
              · right
                rw [List.mem_singleton.mp hx, ww]
                simp
            have hx : ∀ u ∈ [w], WordN (ns.take done.length) u := fun u hu => by rw [List.mem_singleton.mp hu]; exact hw
            have f := fin (mo - 1) vs S6 o10 (pen6.mono (by omega)) (by omega) (by simp at vl; omega) vn (fun u hu => by
              rcases vx u hu with z | z
              · exact wlen u z
              · rw [List.mem_singleton.mp z, hw.1, tl]) (fun gs hg hr => bi' [w] vs (mo - 1) (by simp) hx vx gs hg hr)
            simpa using f
        · simp [hv]
          simpa using fin mo us S4 o10 (pen4.mono (by omega)) mo0 (by omega) un (fun u hu => wlen u (um u hu)) (fun gs hg hr => bi' [] us mo (by simp) (by simp) (fun w hw => .inl (um w hw)) gs hg hr)
      · have c2 : ¬ ((0 : Int) < (done.length : Int) ∧ 0 < mo) := by omega
        by_cases c1 : 0 < done.length
        · have c3 : ¬ 0 < mo := fun z => hm ⟨c1, z⟩
          have c4 : (0 : Int) < (done.length : Int) := by omega
          simp [c1, c3, c4]
          simpa using fin mo us S' o10 (pen.mono (by omega)) mo0 (by omega) un (fun u hu => wlen u (um u hu)) (fun gs hg hr => bi' [] us mo (by simp) (by simp) (fun w hw => .inl (um w hw)) gs hg hr)
        · have c4 : ¬ (0 : Int) < (done.length : Int) := by omega
          simp [c1, c4]
          simpa using fin mo us S' o10 (pen.mono (by omega)) mo0 (by omega) un (fun u hu => wlen u (um u hu)) (fun gs hg hr => bi' [] us mo (by simp) (by simp) (fun w hw => .inl (um w hw)) gs hg hr)
    · rw [hP] at h
      obtain ⟨pen, mo, B, o5, o9, o10, rfl, hB, mo0, bi⟩ := h
      rw [List.length_range] at hB pen
      simp
      exact q B S' (bi.lock mo0 (by omega) (by omega)) hB (pen.mono (by omega))
end
end WB
namespace WB
open PySem L2

theorem eq_pr2 (k t a b : Int) : eqD (.tup [.int k, .int t]) (.tup [.int a, .int b]) = some (decide (k = a) && decide (t = b)) := by
  rw [eqD_py (x := .tuple [.int k, .int t]) (y := .tuple [.int a, .int b]) rfl rfl rfl rfl (fun _ h => by cases h)]
  congr 1
  show PyData.eqvAll [.int k, .int t] [.int a, .int b] = _
  rw [Bool.eq_iff_iff]
  simp [PyData.eqvAll, PyData.eqv]
theorem eq_ns (v w : List Int) : eqD (.own (v.map D.int)) (.own (w.map D.int)) = some (decide (v = w)) := by
  have p : ∀ u : List Int, (D.own (u.map D.int)).py = some (.list (u.map PyData.int)) := fun u => py_lists (f := PyData.int) (fun _ => rfl) u _ rfl
  have s : ∀ u : List Int, SeqAt.shaped (.list (u.map PyData.int)) = true := fun u => shaped_of (lay_all PyData.int (fun _ => rfl) u) (by
    show PyData.depthAll (u.map PyData.int) + 1 ≤ 64
    have := depth_all PyData.int (n := 0) (fun _ => Nat.le_refl _) u
    omega)
  rw [eqD_py (p v) (p w) (s v) (s w) (fun _ h => by cases h)]
  congr 1
  exact eqvAll_nums v w
theorem eq_nilT (ws : List (List Int)) : eqD (.tup (ws.map wordTup)) (.tup []) = some (decide (ws = [])) := by
  have p : (D.tup (ws.map wordTup)).py = some (.tuple (ws.map wordP)) := by
    show (D.pys (ws.map wordTup)).map PyData.tuple = _
    rw [pys_map wordTup wordP py_word]
    rfl
  rw [eqD_py p (y := .tuple []) rfl (shaped_of (lay_all wordP word_lay ws) (by
    show PyData.depthAll (ws.map wordP) + 1 ≤ 64
    have := depth_all wordP word_depth ws
    omega)) rfl (fun _ h => by cases h)]
  congr 1
  cases ws <;> rfl
theorem eq_nilT0 : eqD (.tup []) (.tup []) = some true := eq_nilT []
theorem all_nil {S : Store} {Q : D → Store → Prop} {X : Exn → Store → Prop} : Ok (biM .all (.own [])) S Q X = Q (.bl true) S := Ok_eq _ _ _ _
theorem lc_nil {f : D → M (Option D)} {acc : List D} : lcM f acc [] = M.ret acc := rfl
def optG : Option Gap → D
  | none => .non
  | some g => gapD g
section
variable {k n : Nat} {S : Store} {Q : D → Store → Prop} {X : Exn → Store → Prop}
theorem r_places {L : List Bolt} {j : Nat} {b : Bolt} {h t : Int} (hb : L[j]? = some b) (h1 : 0 ≤ h ∧ h ≤ b.n - 1) (h2 : 0 ≤ t ∧ t ≤ b.n - 1) (h3 : h ≠ t) (q : Q (.bl true) S) : Ok (k54at (k + 3) 11 [lockD L, .int j, .int h, .int t]) S Q X := by
  refine Ok_go k54d11 k54t11 rfl ?_
  have a1 := atI_map (e := boltD) hb
  simp [k54d11, k54b11, a1]
  refine r_from ?_
  simp [h1]
  refine r_from ?_
  simp [h2, h3]
  exact q
theorem r_gapat {L : List Bolt} (ok : LockOk L) {j : Nat} {b : Bolt} {h t : Int} (hb : L[j]? = some b) (h1 : 0 ≤ h ∧ h ≤ b.n - 1) (h2 : 0 ≤ t ∧ t ≤ b.n - 1) (h3 : h ≠ t) (q : Q (optG (gapF L j h t)) S) : Ok (k54at (k + 4) 12 [lockD L, .int j, .int h, .int t]) S Q X := by
  have g12 := boltB_gaps (ok.bolts _ _ hb)
  have sz : sizeLine = 16777216 := rfl
  refine Ok_go k54d12 k54t12 rfl ?_
  have a1 := atI_map (e := boltD) hb
  simp [k54d12, k54b12]
  refine r_places hb h1 h2 h3 ?_
  simp [a1]
  refine Ok_lcP (g := fun g : Gap => if decide (g.h = h) && decide (g.t = t) then some (gapD g) else none) (by omega) (fun g hg => ?_) ?_
  · by_cases z1 : g.h = h <;> by_cases z2 : g.t = t <;> simp [lcS, cut2, eq_pr2, z1, z2, sz]
  · have e1 : b.gs.filterMap (fun g : Gap => if decide (g.h = h) && decide (g.t = t) then some (gapD g) else none) = (b.gs.filter fun g => decide (g.h = h) && decide (g.t = t)).map gapD := by
      clear hb g12 ok a1
      induction b.gs with
      | nil => rfl
      | cons g r ih =>
        rw [List.filterMap_cons, List.filter_cons]
        cases (decide (g.h = h) && decide (g.t = t)) with
        | true => simp only [if_true, List.map_cons]; rw [ih]
        | false => simp only [Bool.false_eq_true, if_false]; exact ih
    rw [e1]
    have e2 : gapF L j h t = (b.gs.filter fun g => decide (g.h = h) && decide (g.t = t)).head? := by
      rw [List.head?_filter]
      show (L[j]?).bind _ = _
      rw [hb]
      rfl
    rw [e2] at q
    generalize (b.gs.filter fun g => decide (g.h = h) && decide (g.t = t)) = l at q ⊢
    have e3 := eq_nilG gapD gapP py_gap gap_lay gap_depth (by decide) (.bor (l.map gapD)) l rfl
    cases l with
    | nil =>
      simp at e3
      simp [e3]
      simpa [optG] using q
    | cons g r =>
      simp at e3
      simp [e3]
      simpa [optG] using q
theorem r_like {L M : List Bolt} (okL : LockOk L) (okM : LockOk M) (hn : L.map (·.n) = M.map (·.n)) (q : Q .non S) : Ok (k54at (k + 8) 13 [lockD L, lockD M]) S Q X := by
  have sz : sizeLine = 16777216 := rfl
  have l1 := okL.most
  have l2 := okM.most
  refine Ok_go k54d13 k54t13 rfl ?_
  simp [k54d13, k54b13]
  refine r_must okL ?_
  refine r_must okM ?_
  refine Ok_lcMap (g := fun b : Bolt => D.int b.n) (by omega) (fun b hb => by simp [lcS, boltD]) ?_
  refine Ok_lcMap (g := fun b : Bolt => D.int b.n) (by omega) (fun b hb => by simp [lcS, boltD]) ?_
  have e : eqD (.own (L.map fun b => D.int b.n)) (.own (M.map fun b => D.int b.n)) = some (decide (L.map (·.n) = M.map (·.n))) := by
    have := eq_ns (L.map (·.n)) (M.map (·.n))
    rw [List.map_map, List.map_map] at this
    exact this
  simp [e, hn]
  exact q
theorem r_unlike {L M : List Bolt} (okL : LockOk L) (okM : LockOk M) (hn : L.map (·.n) ≠ M.map (·.n)) (q : X ⟨"Unlike", none⟩ S) : Ok (k54at (k + 8) 13 [lockD L, lockD M]) S Q X := by
  have sz : sizeLine = 16777216 := rfl
  have l1 := okL.most
  have l2 := okM.most
  refine Ok_go k54d13 k54t13 rfl ?_
  simp [k54d13, k54b13]
  refine r_must okL ?_
  refine r_must okM ?_
  refine Ok_lcMap (g := fun b : Bolt => D.int b.n) (by omega) (fun b hb => by simp [lcS, boltD]) ?_
  refine Ok_lcMap (g := fun b : Bolt => D.int b.n) (by omega) (fun b hb => by simp [lcS, boltD]) ?_
  have e : eqD (.own (L.map fun b => D.int b.n)) (.own (M.map fun b => D.int b.n)) = some (decide (L.map (·.n) = M.map (·.n))) := by
    have := eq_ns (L.map (·.n)) (M.map (·.n))
    rw [List.map_map, List.map_map] at this
    exact this
  simp [e, hn]
  exact q
def okBp (L : List Bolt) (p : Bolt × Nat) : Bool := p.1.gs.all fun g => okG (gapF L p.2 g.h g.t) g
theorem within_no {L M : List Bolt} {done rest : List (Bolt × Nat)} {p : Bolt × Nat} (e : M.zipIdx = done ++ p :: rest) {gd gr : List Gap} {g : Gap} (eg : p.1.gs = gd ++ g :: gr) (h : okG (gapF L p.2 g.h g.t) g = false) : withinB L M = false := by
  unfold withinB
  rw [e, List.all_append, List.all_cons]
  have : (p.1.gs.all fun g => okG (gapF L p.2 g.h g.t) g) = false := by rw [eg, List.all_append, List.all_cons, h]; simp
  rw [this]
  simp
theorem r_within {L M : List Bolt} (okL : LockOk L) (okM : LockOk M) (hn : L.map (·.n) = M.map (·.n)) (q : Q (.bl (withinB L M)) S) : Ok (k54at (k + 9) 14 [lockD L, lockD M]) S Q X := by
  have sz : sizeLine = 16777216 := rfl
  have l1 := okL.most
  have l2 := okM.most
  refine Ok_go k54d14 k54t14 rfl ?_
  simp [k54d14, k54b14]
  refine r_like okL okM hn ?_
  rw [enumFrom_map]
  obtain ⟨P, hP⟩ : ∃ P : List (Bolt × Nat) → WB.Env → Store → Prop, P = fun done ρ S' => S' = S ∧ done.all (okBp L) = true ∧ ∃ (o2 o3 o4 o5 o6 o7 o8 o9 : Option D), ρ = [some (lockD L), some (lockD M), o2, o3, o4, o5, o6, o7, o8, o9] := ⟨_, rfl⟩
  refine Ok_for (P := P) ?_ (fun done p rest ρ S1 e h => ?_) (fun ρ S' h => ?_)
  · rw [hP]
    exact ⟨rfl, rfl, _, _, _, _, _, _, _, _, rfl⟩
  · rw [hP] at h
    obtain ⟨rfl, hd, o2, o3, o4, o5, o6, o7, o8, o9, rfl⟩ := h
    obtain ⟨hp, hpd⟩ := zip_at e
    obtain ⟨b, i⟩ := p
    simp only at hp hpd
    subst hp
    have boM := okM.bolts _ _ hpd
    have g12 := boltB_gaps boM
    have hiM := (List.getElem?_eq_some_iff.mp hpd).1
    have hlen : L.length = M.length := by simpa using congrArg List.length hn
    obtain ⟨c, hc⟩ : ∃ c, L[done.length]? = some c := ⟨L[done.length]'(by omega), List.getElem?_eq_getElem _⟩
    have hcn : c.n = b.n := by
      have h1 : (L.map (·.n))[done.length]? = some c.n := by rw [List.getElem?_map, hc]; rfl
      have h2 : (M.map (·.n))[done.length]? = some b.n := by rw [List.getElem?_map, hpd]; rfl
      rw [hn, h2] at h1
      exact (Option.some.inj h1).symm
    rw [forS_eq]
    simp
    obtain ⟨P2, hP2⟩ : ∃ P2 : List Gap → WB.Env → Store → Prop, P2 = fun gd ρ S' => S' = S1 ∧ (gd.all fun g => okG (gapF L done.length g.h g.t) g) = true ∧ ∃ (o4 o5 o6 o7 o8 o9 : Option D), ρ = [some (lockD L), some (lockD M), some (.int done.length), some (boltD b), o4, o5, o6, o7, o8, o9] := ⟨_, rfl⟩
    refine Ok_for (P := P2) ?_ (fun gd g gr ρ S2 eg h => ?_) (fun ρ S2 h => ?_)
    · rw [hP2]
      exact ⟨rfl, rfl, _, _, _, _, _, _, rfl⟩
    · rw [hP2] at h
      obtain ⟨rfl, hgd, o4, o5, o6, o7, o8, o9, rfl⟩ := h
      have gok := boltB_gap boM (g := g) (by rw [eg]; simp)
      have ws8 : g.ws.length ≤ 8 := by
        have := boltB_sum boM
        have m : g.ws.length ∈ b.gs.map fun g => g.ws.length := List.mem_map.mpr ⟨g, by rw [eg]; simp, rfl⟩
        have := le_sum m
        omega
      have no : okG (gapF L done.length g.h g.t) g = false → Q (.bl false) S2 := fun z => by
        rw [within_no e eg z] at q
        exact q
      have yes : okG (gapF L done.length g.h g.t) g = true → ∀ (o4 o5 o6 o7 o8 o9 : Option D), P2 (gd ++ [g]) [some (lockD L), some (lockD M), some (.int done.length), some (boltD b), o4, o5, o6, o7, o8, o9] S2 := fun z o4 o5 o6 o7 o8 o9 => by
        rw [hP2]
        exact ⟨rfl, by rw [List.all_append, hgd]; simp [z], _, _, _, _, _, _, rfl⟩
      rw [forS_eq]
      simp
      refine r_gapat okL hc (by rw [hcn]; exact ⟨gok.h.1, by have := gok.h.2; omega⟩) (by rw [hcn]; exact ⟨gok.t.1, by have := gok.t.2; omega⟩) gok.ne ?_
      have en := eq_nilT g.ws
      cases f : gapF L done.length g.h g.t with
      | none =>
        rw [f] at no yes
        by_cases z : g.ws = []
        · have y := yes (by simp [okG, z])
          simp [optG, z, eq_nilT0, lc_nil, all_nil]
          exact y _ _ _ _ _ _
        · have y := no (by simp [okG, z])
          simp [optG, en, z]
          exact y
      | some g' =>
        rw [f] at no yes
        by_cases z : g.ws = []
        · have y := yes (by simp [okG, z])
          simp [optG, z, eq_nilT0, lc_nil, all_nil]
          exact y _ _ _ _ _ _
        · by_cases zp : g'.p ≤ g.p
          · have np : ¬ g.p < g'.p := by omega
            simp [optG, en, z, np]
            refine Ok_lcAll (p := fun w => decide (w ∈ g'.ws)) (by omega) (fun w hw => ?_) ?_
            · simp [lcS, mem_words]
            · by_cases za : (g.ws.all fun w => decide (w ∈ g'.ws)) = true
              · have y := yes (by simp only [okG, Bool.and_eq_true, Bool.or_eq_true, decide_eq_true_eq]; exact ⟨.inr zp, za⟩)
                rw [za]
                simp
                exact y _ _ _ _ _ _
              · have zb := Bool.eq_false_iff.mpr za
                have y := no (by simp only [okG, zb, Bool.and_false])
                rw [zb]
                simp
                exact y
          · have np : g.p < g'.p := by omega
            have y := no (by simp [okG, z, zp])
            simp [optG, en, z, np]
            exact y
    · rw [hP2] at h
      obtain ⟨rfl, hgd, o4, o5, o6, o7, o8, o9, rfl⟩ := h
      simp
      rw [hP]
      exact ⟨rfl, by rw [List.all_append, hd]; simp [okBp, hgd], _, _, _, _, _, _, _, _, rfl⟩
  · rw [hP] at h
    obtain ⟨rfl, hd, o2, o3, o4, o5, o6, o7, o8, o9, rfl⟩ := h
    have : withinB L M = true := hd
    rw [this] at q
    simp
    exact q
end
end WB
namespace WB
open PySem L2

theorem ents_next {L : List Bolt} {m : Nat} {b : Bolt} (h : L[m]? = some b) : entsL (L.take (m + 1)) = entsL (L.take m) ++ entsB (b, m) := by
  have hm := (List.getElem?_eq_some_iff.mp h).1
  unfold entsL
  rw [List.take_add_one, h, Option.toList_some, List.zipIdx_append, List.flatMap_append, List.length_take, Nat.min_eq_left (by omega)]
  simp
theorem ents_take (L : List Bolt) (j : Nat) : ∃ r, entsL L = entsL (L.take j) ++ r := by
  refine ⟨((L.drop j).zipIdx (L.take j).length).flatMap entsB, ?_⟩
  unfold entsL
  rw [← List.flatMap_append]
  congr 1
  have := List.zipIdx_append (xs := L.take j) (ys := L.drop j) (k := 0)
  rw [List.take_append_drop] at this
  simpa using this
theorem entsB_len {L : List Bolt} (ok : LockOk L) {p : Bolt × Nat} (hp : p ∈ L.zipIdx) : (entsB p).length ≤ 8 := by
  have := boltB_sum (ok.bolts _ _ (zip_mem hp))
  unfold entsB
  rw [List.length_flatMap]
  simpa [entsG] using this
theorem ents_len {L : List Bolt} (ok : LockOk L) : (entsL L).length ≤ 480 := by
  have h := flat_len (f := entsB) (n := 8) (l := L.zipIdx) fun p hp => entsB_len ok hp
  rw [List.length_zipIdx] at h
  have := ok.most
  unfold entsL
  omega
def enP (e : En) : PyData := .tuple [.int e.k, .int e.h, .int e.t, wordP e.w]
theorem py_en (e : En) : (enD e).py = some (enP e) := by
  simp only [enD, D.py, D.pys, py_word, Option.map_some, enP]
theorem en_lay (e : En) : (enP e).canLay0 = true := by
  simp only [enP, PyData.canLay0, PyData.canLayAll0, word_lay, Bool.and_self]
theorem en_depth (e : En) : (enP e).depth ≤ 3 := by
  have := word_depth e.w
  simp only [enP, PyData.depth, PyData.depthAll]
  omega
theorem find_self {es : List En} (nd : (es.map En.K).Nodup) {e : En} (he : e ∈ es) : es.find? (fun e' => decide (e'.K = e.K)) = some e := by
  cases f : es.find? fun e' => decide (e'.K = e.K) with
  | none =>
    have := List.find?_eq_none.mp f e he
    simp at this
  | some e' =>
    have q := List.find?_some f
    simp only [decide_eq_true_eq] at q
    obtain ⟨i, hi, rfl⟩ := List.mem_iff_getElem.mp (List.mem_of_find?_eq_some f)
    obtain ⟨j, hj, rfl⟩ := List.mem_iff_getElem.mp he
    have : (es.map En.K)[i]'(by simpa using hi) = (es.map En.K)[j]'(by simpa using hj) := by rw [List.getElem_map, List.getElem_map, q]
    have := (List.getElem_inj nd).mp this
    subst this
    rfl
def badE (L : List Bolt) (e : En) : Bool := match (entsL L).find? fun e' => decide (e'.K = e.K) with
  | some e' => decide (e.p < e'.p)
  | none => true
theorem due_bad (L M : List Bolt) : decide ((entsL M).filter (badE L) = []) = dueB L M := by
  rw [Bool.eq_iff_iff, decide_eq_true_eq, List.filter_eq_nil_iff]
  unfold dueB
  rw [List.all_eq_true]
  refine ⟨fun h e he => ?_, fun h e he => ?_⟩
  · have z := h e he
    unfold badE at z
    show (match (entsL L).find? (fun e' => decide (e'.K = e.K)) with | some e' => decide (e'.p ≤ e.p) | none => false) = true
    cases q : (entsL L).find? (fun e' => decide (e'.K = e.K)) with
    | some e' =>
      simp only [q, decide_eq_true_eq] at z ⊢
      omega
    | none => simp [q] at z
  · have z := h e he
    unfold badE
    cases q : (entsL L).find? (fun e' => decide (e'.K = e.K)) with
    | some e' =>
      simp only [q, decide_eq_true_eq] at z ⊢
      omega
    | none => simp [q] at z
section
variable {k n : Nat} {S : Store} {Q : D → Store → Prop} {X : Exn → Store → Prop}
theorem r_waysof {L : List Bolt} (ok : LockOk L) (q : Q (.kd ((entsL L).map enD) ((entsL L).map vaD)) S) : Ok (k54at (k + 1) 25 [lockD L]) S Q X := by
  have sz : sizeLine = 16777216 := rfl
  have l60 := ok.most
  have el := ents_len ok
  have nd := ents_nodup ok
  refine Ok_go k54d25 k54t25 rfl ?_
  simp [k54d25, k54b25]
  rw [rngV1_nat L.length (by omega)]
  simp
  obtain ⟨P, hP⟩ : ∃ P : List Nat → WB.Env → Store → Prop, P = fun done ρ S' => S' = S ∧ ∃ (o2 o3 o4 o5 o6 o7 : Option D), ρ = [some (lockD L), some (.okd ((entsL (L.take done.length)).map enD) ((entsL (L.take done.length)).map vaD)), o2, o3, o4, o5, o6, o7] := ⟨_, rfl⟩
  refine Ok_for (P := P) ?_ (fun done i rest ρ S1 e h => ?_) (fun ρ S' h => ?_)
  · rw [hP]
    exact ⟨rfl, _, _, _, _, _, _, rfl⟩
  · rw [hP] at h
    obtain ⟨rfl, o2, o3, o4, o5, o6, o7, rfl⟩ := h
    obtain ⟨rfl, hi⟩ := range_at e
    have hb : L[done.length]? = some L[done.length] := List.getElem?_eq_getElem hi
    generalize L[done.length] = b at hb
    have bo := ok.bolts _ _ hb
    have a1 := atI_map (e := boltD) hb
    have en := ents_next hb
    obtain ⟨r, hr⟩ := ents_take L (done.length + 1)
    rw [en] at hr
    rw [forS_eq]
    simp [a1]
    obtain ⟨P2, hP2⟩ : ∃ P2 : List Gap → WB.Env → Store → Prop, P2 = fun gd ρ S' => S' = S1 ∧ ∃ (o3 o4 o5 o6 o7 : Option D), ρ = [some (lockD L), some (.okd ((entsL (L.take done.length) ++ gd.flatMap (entsG done.length)).map enD) ((entsL (L.take done.length) ++ gd.flatMap (entsG done.length)).map vaD)), some (.int done.length), o3, o4, o5, o6, o7] := ⟨_, rfl⟩
    refine Ok_for (P := P2) ?_ (fun gd g gr ρ S2 eg h => ?_) (fun ρ S2 h => ?_)
    · rw [hP2]
      exact ⟨rfl, o3, o4, o5, o6, o7, by simp⟩
    · rw [hP2] at h
      obtain ⟨rfl, o3, o4, o5, o6, o7, rfl⟩ := h
      have gok := boltB_gap bo (g := g) (by rw [eg]; simp)
      have whole : ∃ r2, entsL L = (entsL (L.take done.length) ++ gd.flatMap (entsG done.length)) ++ entsG done.length g ++ r2 := by
        refine ⟨gr.flatMap (entsG done.length) ++ r, ?_⟩
        rw [hr]
        unfold entsB
        rw [eg]
        simp
      obtain ⟨r2, hr2⟩ := whole
      have ndp : ((entsL (L.take done.length) ++ gd.flatMap (entsG done.length) ++ entsG done.length g).map En.K).Nodup := by
        rw [hr2, List.map_append, List.nodup_append] at nd
        exact nd.1
      have lenp : (entsL (L.take done.length) ++ gd.flatMap (entsG done.length)).length + (entsG done.length g).length ≤ 480 := by
        rw [hr2, List.length_append, List.length_append] at el
        omega
      have ws8 : g.ws.length ≤ 480 := by
        have : (entsG done.length g).length = g.ws.length := by simp [entsG]
        omega
      rw [forS_eq]
      simp
      refine Ok_lcMap (g := fun w => paD ⟨done.length, g.h, g.t, w, g.p⟩) (by omega) (fun w hw => by simp [lcS, sz, paD, enD]) ?_
      have e1 : g.ws.map (fun w => paD ⟨done.length, g.h, g.t, w, g.p⟩) = (entsG done.length g).map paD := by
        unfold entsG
        rw [List.map_map]
        rfl
      rw [e1]
      have ka := kdAdd_new ndp
      have fin : ∀ (o3 o4 o5 o6 o7 : Option D), P2 (gd ++ [g]) [some (lockD L), some (.okd ((entsL (L.take done.length) ++ gd.flatMap (entsG done.length) ++ entsG done.length g).map enD) ((entsL (L.take done.length) ++ gd.flatMap (entsG done.length) ++ entsG done.length g).map vaD)), some (.int done.length), o3, o4, o5, o6, o7] S2 := fun o3 o4 o5 o6 o7 => by
        rw [hP2]
        exact ⟨rfl, o3, o4, o5, o6, o7, by simp⟩
      simp only [updV, D.list?]
      rw [← List.map_append, ← List.map_append, ka]
      simp only
      rw [if_pos (by rw [List.length_map, List.length_map]; omega)]
      simp
      have := fin (some (.int g.h)) (some (.int g.t)) (some (.int g.p)) (some (.tup (g.ws.map wordTup))) o7
      simpa using this
    · rw [hP2] at h
      obtain ⟨rfl, o3, o4, o5, o6, o7, rfl⟩ := h
      simp
      rw [hP]
      refine ⟨rfl, some (.int done.length), o3, o4, o5, o6, o7, ?_⟩
      rw [List.length_append, List.length_singleton, en]
      simp [entsB]
  · rw [hP] at h
    obtain ⟨rfl, o2, o3, o4, o5, o6, o7, rfl⟩ := h
    rw [List.length_range, List.take_length]
    simp
    exact q
theorem r_due {L M : List Bolt} (okL : LockOk L) (okM : LockOk M) (q : Q (.bl (withinB L M)) S) : Ok (k54at (k + 2) 26 [lockD L, lockD M]) S Q X := by
  have sz : sizeLine = 16777216 := rfl
  have el := ents_len okM
  refine Ok_go k54d26 k54t26 rfl ?_
  simp [k54d26, k54b26]
  refine r_waysof okL ?_
  simp
  refine r_waysof okM ?_
  simp
  refine Ok_lcP (enc := enD) (g := fun e => if badE L e then some (enD e) else none) (by omega) (fun e he => ?_) ?_
  · have a1 := kdAt_en e.K (entsL L)
    have a2 := kdAt_en e.K (entsL M)
    rw [find_self (ents_nodup okM) he] at a2
    have m1 := mem_kd (ks := (entsL L).map enD) (vs := (entsL L).map vaD) (en_key e)
    have s1 := sub_kd (ks := (entsL L).map enD) (vs := (entsL L).map vaD) (en_key e)
    have s2 := sub_kd (ks := (entsL M).map enD) (vs := (entsL M).map vaD) (en_key e)
    rw [a1] at m1 s1
    rw [a2] at s2
    cases f : (entsL L).find? fun e' => decide (e'.K = e.K) with
    | none =>
      rw [f] at m1
      have hb : badE L e = true := by unfold badE; rw [f]
      simp only [enD, wordTup] at m1
      simp [lcS, enD, m1, hb, wordTup]
    | some e' =>
      rw [f] at m1 s1
      have hb : badE L e = decide (e.p < e'.p) := by unfold badE; rw [f]
      simp only [enD, wordTup] at m1 s1 s2
      by_cases z : e.p < e'.p
      · simp [lcS, enD, m1, s1, s2, hb, vaD, z, wordTup]
      · simp [lcS, enD, m1, s1, s2, hb, vaD, z, wordTup]
  · have e1 : (entsL M).filterMap (fun e => if badE L e then some (enD e) else none) = ((entsL M).filter (badE L)).map enD := by
      clear q el okM
      induction entsL M with
      | nil => rfl
      | cons e r ih =>
        rw [List.filterMap_cons, List.filter_cons]
        cases badE L e with
        | true => simp only [if_true, List.map_cons]; rw [ih]
        | false => simp only [Bool.false_eq_true, if_false]; exact ih
    rw [e1]
    have e2 := eq_nilG enD enP py_en en_lay en_depth (by decide) (.own (((entsL M).filter (badE L)).map enD)) _ rfl
    rw [due_bad, due_within okL] at e2
    simp [e2]
    exact q
end
end WB
namespace WB
open PySem L2

/-- gaps left over of gaps -/
structure BagOk (T : List Bolt) (n : Int) (gd gs : List Gap) : Prop where
  sub : (gs.map gapK).Sublist (gd.map gapK)
  ok : ∀ g ∈ gs, GapOk T n g
  ways : ∀ g ∈ gs, ∀ w ∈ g.ws, ∃ g0 ∈ gd, w ∈ g0.ws
  sum : (gs.map fun g => g.ws.length).sum ≤ (gd.map fun g => g.ws.length).sum
theorem BagOk.drop {T : List Bolt} {n : Int} {gd gs : List Gap} (h : BagOk T n gd gs) (g : Gap) : BagOk T n (gd ++ [g]) gs where
  sub := by
    rw [List.map_append]
    exact h.sub.trans (List.sublist_append_left _ _)
  ok := h.ok
  ways := fun x hx w hw => let ⟨g0, h1, h2⟩ := h.ways x hx w hw; ⟨g0, List.mem_append_left _ h1, h2⟩
  sum := by
    have := h.sum
    simp
    omega
theorem BagOk.put {T : List Bolt} {n : Int} {gd gs : List Gap} (h : BagOk T n gd gs) {g x : Gap} (hx : GapOk T n x) (e1 : x.h = g.h) (e2 : x.t = g.t) (hw : ∀ w ∈ x.ws, w ∈ g.ws) (hl : x.ws.length ≤ g.ws.length) : BagOk T n (gd ++ [g]) (gs ++ [x]) where
  sub := by
    rw [List.map_append, List.map_append]
    have : [x].map gapK = [g].map gapK := by simp [gapK, e1, e2]
    rw [this]
    exact h.sub.append (List.Sublist.refl _)
  ok := fun y hy => by
    rcases List.mem_append.mp hy with hy | hy
    · exact h.ok y hy
    · rw [List.mem_singleton.mp hy]; exact hx
  ways := fun y hy w hw' => by
    rcases List.mem_append.mp hy with hy | hy
    · obtain ⟨g0, h1, h2⟩ := h.ways y hy w hw'
      exact ⟨g0, List.mem_append_left _ h1, h2⟩
    · rw [List.mem_singleton.mp hy] at hw'
      exact ⟨g, by simp, hw w hw'⟩
  sum := by
    have := h.sum
    simp
    omega
theorem BagOk.bolt {T : List Bolt} {b : Bolt} {gs : List Gap} (hb : boltB T b = true) (h : BagOk T b.n b.gs gs) : boltB T ⟨b.n, gs⟩ = true :=
  boltB_mk (b := ⟨b.n, gs⟩) (show 2 ≤ b.n ∧ b.n ≤ 4 from boltB_n hb) h.ok (List.Pairwise.sublist h.sub (boltB_rise hb)) (Nat.le_trans h.sum (boltB_sum hb))
theorem BagOk.len {T : List Bolt} {n : Int} {gd gs : List Gap} (h : BagOk T n gd gs) : gs.length ≤ gd.length := by
  have := h.sub.length_le
  simpa using this
/-- bolts left over of bolts -/
def Thin (L M : List Bolt) : Prop := ∀ i c, M[i]? = some c → ∃ b, L[i]? = some b ∧ c.n = b.n ∧ boltB (L.take i) c = true ∧ ∀ w ∈ waysF c, w ∈ waysF b
theorem Thin.ns {L M : List Bolt} (h : Thin L M) (hl : M.length ≤ L.length) : M.map (·.n) = (L.take M.length).map (·.n) := by
  refine List.ext_getElem? fun i => ?_
  rw [List.getElem?_map, List.getElem?_map]
  by_cases hi : i < M.length
  · rw [List.getElem?_take_of_lt hi]
    have e := List.getElem?_eq_getElem hi
    obtain ⟨b, h1, h2, _⟩ := h i _ e
    rw [e, h1, Option.map_some, Option.map_some, h2]
  · rw [List.getElem?_eq_none (by omega), List.getElem?_eq_none (by rw [List.length_take]; omega)]
theorem Thin.take {L M : List Bolt} (h : Thin L M) (i : Nat) : Thin L (M.take i) := fun j c hc => by
  rw [List.getElem?_take] at hc
  split at hc
  · exact h j c hc
  · cases hc
theorem Thin.ok {L M : List Bolt} (h : Thin L M) (ok : LockOk L) (hl : M.length = L.length) : LockOk M ∧ M.map (·.n) = L.map (·.n) := by
  have e : M.map (·.n) = L.map (·.n) := by
    have := h.ns (by omega)
    rw [hl, List.take_length] at this
    exact this
  refine ⟨?_, e⟩
  obtain ⟨gen, few, from_⟩ := ok.few
  refine ⟨by rw [hl]; exact ok.least, by rw [hl]; exact ok.most, fun k b hk => ?_, gen, few, fun k b hk w hw => ?_⟩
  · obtain ⟨c, h1, h2, h3, h4⟩ := h k b hk
    refine boltB_ns (L := L.take k) ?_ h3
    rw [List.map_take, List.map_take, e]
  · obtain ⟨c, h1, h2, h3, h4⟩ := h k b hk
    exact from_ k c h1 w (h4 w hw)
theorem cut1 {α : Type} (xs : List α) : cut xs (some 1) none = xs.drop 1 := cut_drop xs 1
section
variable {k n : Nat} {S : Store} {Q : D → Store → Prop} {X : Exn → Store → Prop}
theorem r_other {L : List Bolt} (ok : LockOk L) (h : PenOk n S) (hn : n < 2 ^ 38) (q : ∀ M S', LockOk M → M.map (·.n) = L.map (·.n) → PenOk (n + 4000) S' → Q (lockD M) S') : Ok (k54at (k + 3) 27 [.ref 0, lockD L]) S Q X := by
  have sz : sizeLine = 16777216 := rfl
  have l60 := ok.most
  refine Ok_go k54d27 k54t27 rfl ?_
  simp [k54d27, k54b27, sz]
  refine r_pick h (by omega) (by simp) (by simp) (fun x hx => by simp at hx; rcases hx with rfl | rfl | rfl <;> rfl) (fun x hx S1 pen1 => ?_)
  obtain ⟨sh, rfl, sh2, sh99⟩ : ∃ sh : Int, x = .int sh ∧ 2 ≤ sh ∧ sh ≤ 99 := by
    simp at hx
    rcases hx with rfl | rfl | rfl
    · exact ⟨2, rfl, by omega, by omega⟩
    · exact ⟨9, rfl, by omega, by omega⟩
    · exact ⟨99, rfl, by omega, by omega⟩
  simp
  obtain ⟨P, hP⟩ : ∃ P : List Bolt → WB.Env → Store → Prop, P = fun done ρ S' => PenOk (n + 1 + 60 * done.length) S' ∧ ∃ (M : List Bolt) (o4 o5 o6 o7 o8 o9 o10 : Option D), Thin L M ∧ M.length = done.length ∧ ρ = [some (.ref 0), some (lockD L), some (.own (M.map boltD)), some (.int sh), o4, o5, o6, o7, o8, o9, o10] := ⟨_, rfl⟩
  refine Ok_for (P := P) ?_ (fun done b rest ρ S2 e h => ?_) (fun ρ S2 h => ?_)
  · rw [hP]
    exact ⟨pen1, [], _, _, _, _, _, _, _, (fun i c z => by simp at z), rfl, rfl⟩
  · rw [hP] at h
    obtain ⟨pen2, M, o4, o5, o6, o7, o8, o9, o10, th, ml, rfl⟩ := h
    have hb : L[done.length]? = some b := by rw [e]; simp
    have bo := ok.bolts _ _ hb
    have g12 := boltB_gaps bo
    have hi := (List.getElem?_eq_some_iff.mp hb).1
    rw [forS_eq]
    simp
    obtain ⟨P2, hP2⟩ : ∃ P2 : List Gap → WB.Env → Store → Prop, P2 = fun gd ρ S' => PenOk (n + 1 + 60 * done.length + 5 * gd.length) S' ∧ ∃ (gs : List Gap) (o7 o8 o9 o10 : Option D), BagOk (L.take done.length) b.n gd gs ∧ ρ = [some (.ref 0), some (lockD L), some (.own (M.map boltD)), some (.int sh), some (.int b.n), some (.tup (b.gs.map gapD)), some (.own (gs.map gapD)), o7, o8, o9, o10] := ⟨_, rfl⟩
    refine Ok_for (P := P2) ?_ (fun gd g gr ρ S3 eg h => ?_) (fun ρ S3 h => ?_)
    · rw [hP2]
      exact ⟨by simpa using pen2, [], o7, o8, o9, o10, ⟨List.Sublist.refl _, by simp, by simp, by simp⟩, rfl⟩
    · rw [hP2] at h
      obtain ⟨pen3, gs, o7, o8, o9, o10, bag, rfl⟩ := h
      have gok := boltB_gap bo (g := g) (by rw [eg]; simp)
      have gdl : gd.length < 12 := by
        rw [eg] at g12
        simp at g12
        omega
      have gsl := bag.len
      rw [forS_eq]
      simp
      refine r_draw pen3 (by omega) (by omega) (by omega) fun v1 S4 _ _ pen4 => ?_
      by_cases z1 : v1 = 0
      · simp [z1, pow6, sz]
        refine r_pick pen4 (by omega) (by simp) (by simp) (fun x hx => by simp at hx; rcases hx with rfl | rfl <;> rfl) (fun x hx S5 pen5 => ?_)
        obtain ⟨d, rfl⟩ : ∃ d : Int, x = .int d := by
          simp at hx
          rcases hx with rfl | rfl <;> exact ⟨_, rfl⟩
        simp
        have hc : 1 ≤ (if (if 1 < g.p + d then g.p + d else 1) < 1000000 then if 1 < g.p + d then g.p + d else 1 else 1000000) ∧ (if (if 1 < g.p + d then g.p + d else 1) < 1000000 then if 1 < g.p + d then g.p + d else 1 else 1000000) ≤ 1000000 := by
          by_cases q1 : 1 < g.p + d
          · by_cases q2 : g.p + d < 1000000
            · simp [q1, q2]
              omega
            · simp [q1, q2]
          · simp [q1]
        generalize (if (if 1 < g.p + d then g.p + d else 1) < 1000000 then if 1 < g.p + d then g.p + d else 1 else 1000000) = pr at hc ⊢
        refine r_draw pen5 (by omega) (by omega) (by omega) fun v2 S6 _ _ pen6 => ?_
        by_cases z2 : v2 = 0
        · simp [z2, cut1, ← List.map_drop]
          refine r_draw pen6 (by omega) (by omega) (by omega) fun v3 S7 _ _ pen7 => ?_
          by_cases z3 : 0 < v3
          · simp [z3, sz, appV]
            refine ⟨by omega, ?_⟩
            rw [hP2]
            refine ⟨pen7.mono (by simp; omega), gs ++ [⟨g.h, g.t, pr, g.ws.drop 1⟩], some (.int g.h), some (.int g.t), some (.int pr), some (.tup ((g.ws.drop 1).map wordTup)), bag.put ⟨gok.h, gok.t, gok.ne, hc, fun w hw => gok.ws w (List.mem_of_mem_drop hw), List.Pairwise.sublist (List.drop_sublist 1 g.ws) gok.rise⟩ rfl rfl (fun w hw => List.mem_of_mem_drop hw) (by simp), by simp [gapD]⟩
          · simp [z3, sz, appV]
            refine r_draw pen7 (by omega) (by omega) (by omega) fun v4 S8 _ _ pen8 => ?_
            by_cases z4 : v4 = 0
            · simp [z4, sz, appV]
              refine ⟨by omega, ?_⟩
              rw [hP2]
              refine ⟨pen8.mono (by simp; omega), gs ++ [⟨g.h, g.t, pr, g.ws.drop 1⟩], some (.int g.h), some (.int g.t), some (.int pr), some (.tup ((g.ws.drop 1).map wordTup)), bag.put ⟨gok.h, gok.t, gok.ne, hc, fun w hw => gok.ws w (List.mem_of_mem_drop hw), List.Pairwise.sublist (List.drop_sublist 1 g.ws) gok.rise⟩ rfl rfl (fun w hw => List.mem_of_mem_drop hw) (by simp), by simp [gapD]⟩
            · simp [z4]
              rw [hP2]
              exact ⟨pen8.mono (by simp; omega), gs, some (.int g.h), some (.int g.t), some (.int pr), some (.tup ((g.ws.drop 1).map wordTup)), bag.drop g, by simp⟩
        · simp [z2]
          refine r_draw pen6 (by omega) (by omega) (by omega) fun v3 S7 _ _ pen7 => ?_
          by_cases z3 : 0 < v3
          · simp [z3, sz, appV]
            refine ⟨by omega, ?_⟩
            rw [hP2]
            refine ⟨pen7.mono (by simp; omega), gs ++ [⟨g.h, g.t, pr, g.ws⟩], some (.int g.h), some (.int g.t), some (.int pr), some (.tup ((g.ws).map wordTup)), bag.put ⟨gok.h, gok.t, gok.ne, hc, gok.ws, gok.rise⟩ rfl rfl (fun w hw => hw) (Nat.le_refl _), by simp [gapD]⟩
          · simp [z3, sz, appV]
            refine r_draw pen7 (by omega) (by omega) (by omega) fun v4 S8 _ _ pen8 => ?_
            by_cases z4 : v4 = 0
            · simp [z4, sz, appV]
              refine ⟨by omega, ?_⟩
              rw [hP2]
              refine ⟨pen8.mono (by simp; omega), gs ++ [⟨g.h, g.t, pr, g.ws⟩], some (.int g.h), some (.int g.t), some (.int pr), some (.tup ((g.ws).map wordTup)), bag.put ⟨gok.h, gok.t, gok.ne, hc, gok.ws, gok.rise⟩ rfl rfl (fun w hw => hw) (Nat.le_refl _), by simp [gapD]⟩
            · simp [z4]
              rw [hP2]
              exact ⟨pen8.mono (by simp; omega), gs, some (.int g.h), some (.int g.t), some (.int pr), some (.tup ((g.ws).map wordTup)), bag.drop g, by simp⟩
      · simp [z1]
        refine r_draw pen4 (by omega) (by omega) (by omega) fun v2 S6 _ _ pen6 => ?_
        by_cases z2 : v2 = 0
        · simp [z2, cut1, ← List.map_drop]
          refine r_draw pen6 (by omega) (by omega) (by omega) fun v3 S7 _ _ pen7 => ?_
          by_cases z3 : 0 < v3
          · simp [z3, sz, appV]
            refine ⟨by omega, ?_⟩
            rw [hP2]
            refine ⟨pen7.mono (by simp; omega), gs ++ [⟨g.h, g.t, g.p, g.ws.drop 1⟩], some (.int g.h), some (.int g.t), some (.int g.p), some (.tup ((g.ws.drop 1).map wordTup)), bag.put ⟨gok.h, gok.t, gok.ne, gok.p, fun w hw => gok.ws w (List.mem_of_mem_drop hw), List.Pairwise.sublist (List.drop_sublist 1 g.ws) gok.rise⟩ rfl rfl (fun w hw => List.mem_of_mem_drop hw) (by simp), by simp [gapD]⟩
          · simp [z3, sz, appV]
            refine r_draw pen7 (by omega) (by omega) (by omega) fun v4 S8 _ _ pen8 => ?_
            by_cases z4 : v4 = 0
            · simp [z4, sz, appV]
              refine ⟨by omega, ?_⟩
              rw [hP2]
              refine ⟨pen8.mono (by simp; omega), gs ++ [⟨g.h, g.t, g.p, g.ws.drop 1⟩], some (.int g.h), some (.int g.t), some (.int g.p), some (.tup ((g.ws.drop 1).map wordTup)), bag.put ⟨gok.h, gok.t, gok.ne, gok.p, fun w hw => gok.ws w (List.mem_of_mem_drop hw), List.Pairwise.sublist (List.drop_sublist 1 g.ws) gok.rise⟩ rfl rfl (fun w hw => List.mem_of_mem_drop hw) (by simp), by simp [gapD]⟩
            · simp [z4]
              rw [hP2]
              exact ⟨pen8.mono (by simp; omega), gs, some (.int g.h), some (.int g.t), some (.int g.p), some (.tup ((g.ws.drop 1).map wordTup)), bag.drop g, by simp⟩
        · simp [z2]
          refine r_draw pen6 (by omega) (by omega) (by omega) fun v3 S7 _ _ pen7 => ?_
          by_cases z3 : 0 < v3
          · simp [z3, sz, appV]
            refine ⟨by omega, ?_⟩
            rw [hP2]
            refine ⟨pen7.mono (by simp; omega), gs ++ [⟨g.h, g.t, g.p, g.ws⟩], some (.int g.h), some (.int g.t), some (.int g.p), some (.tup ((g.ws).map wordTup)), bag.put ⟨gok.h, gok.t, gok.ne, gok.p, gok.ws, gok.rise⟩ rfl rfl (fun w hw => hw) (Nat.le_refl _), by simp [gapD]⟩
          · simp [z3, sz, appV]
            refine r_draw pen7 (by omega) (by omega) (by omega) fun v4 S8 _ _ pen8 => ?_
            by_cases z4 : v4 = 0
            · simp [z4, sz, appV]
              refine ⟨by omega, ?_⟩
              rw [hP2]
              refine ⟨pen8.mono (by simp; omega), gs ++ [⟨g.h, g.t, g.p, g.ws⟩], some (.int g.h), some (.int g.t), some (.int g.p), some (.tup ((g.ws).map wordTup)), bag.put ⟨gok.h, gok.t, gok.ne, gok.p, gok.ws, gok.rise⟩ rfl rfl (fun w hw => hw) (Nat.le_refl _), by simp [gapD]⟩
            · simp [z4]
              rw [hP2]
              exact ⟨pen8.mono (by simp; omega), gs, some (.int g.h), some (.int g.t), some (.int g.p), some (.tup ((g.ws).map wordTup)), bag.drop g, by simp⟩
    · rw [hP2] at h
      obtain ⟨pen3, gs, o7, o8, o9, o10, bag, rfl⟩ := h
      have gsl := bag.len
      simp [appV, sz]
      refine ⟨by omega, ?_⟩
      rw [hP]
      refine ⟨pen3.mono (by simp; omega), M ++ [⟨b.n, gs⟩], some (.int b.n), some (.tup (b.gs.map gapD)), some (.own (gs.map gapD)), o7, o8, o9, o10, fun i c hc => ?_, by simp [ml], by simp [boltD]⟩
      by_cases z : i < M.length
      · rw [List.getElem?_append_left z] at hc
        exact th i c hc
      · rw [List.getElem?_append_right (by omega)] at hc
        have e0 : i - M.length = 0 := by
          have := (List.getElem?_eq_some_iff.mp hc).1
          simp at this
          omega
        rw [e0] at hc
        cases hc
        obtain rfl : i = done.length := by omega
        refine ⟨b, hb, rfl, bag.bolt bo, fun w hw => ?_⟩
        obtain ⟨x, hx, hw⟩ := List.mem_flatMap.mp hw
        obtain ⟨g0, h1, h2⟩ := bag.ways x hx w hw
        exact List.mem_flatMap.mpr ⟨g0, h1, h2⟩
  · rw [hP] at h
    obtain ⟨pen2, M, o4, o5, o6, o7, o8, o9, o10, th, ml, rfl⟩ := h
    obtain ⟨okM, nsM⟩ := th.ok ok ml
    simp
    exact q M S2 okM nsM (pen2.mono (by omega))
theorem r_counts {L : List Bolt} (ok : LockOk L) (h : PenOk n S) (hn : n < 2 ^ 37) (q : ∀ M S', LockOk M → M.map (·.n) = L.map (·.n) → PenOk (n + 16000) S' → Q (lockD M) S') : Ok (k54at (k + 5) 28 [.ref 0, lockD L]) S Q X := by
  have sz : sizeLine = 16777216 := rfl
  have l60 := ok.most
  have l1 := ok.least
  refine Ok_go k54d28 k54t28 rfl ?_
  simp [k54d28, k54b28]
  refine Ok_lcMap (g := fun b : Bolt => D.int b.n) (by omega) (fun b hb => by simp [lcS, boltD]) ?_
  obtain ⟨ns, hns⟩ : ∃ ns : List Nat, ns = L.map fun b => b.n.toNat := ⟨_, rfl⟩
  have en : (L.map fun b => D.int b.n) = ns.map natD := by
    rw [hns, List.map_map]
    refine List.map_congr_left fun b hb => ?_
    have := ok.n4 b hb
    show D.int b.n = D.int ((b.n.toNat : Nat) : Int)
    congr 1
    omega
  have eI : (ns.map fun (n : Nat) => (n : Int)) = L.map (·.n) := by
    rw [hns, List.map_map]
    refine List.map_congr_left fun b hb => ?_
    have := ok.n4 b hb
    show ((b.n.toNat : Nat) : Int) = b.n
    omega
  have nl : ns.length = L.length := by rw [hns, List.length_map]
  have n4 : ∀ x ∈ ns, 2 ≤ x ∧ x ≤ 4 := fun x hx => by
    rw [hns] at hx
    obtain ⟨b, hb, rfl⟩ := List.mem_map.mp hx
    have := ok.n4 b hb
    omega
  rw [en]
  refine r_bases (most := 2) h (by omega) (by omega) n4 (by omega) fun bases S3 b1 bl bw pen3 => ?_
  simp
  rw [rngV1_nat L.length (by omega)]
  simp
  refine Ok_lcM (P := fun done acc S' => PenOk (n + 200 + 256 * done.length) S' ∧ ∃ B : List Bolt, acc = B.map boltD ∧ B.length = done.length ∧ BoltsS ns bases 0 B) (by simp; omega) ⟨pen3.mono (by omega), [], rfl, rfl, rfl, (fun k b z => by simp at z), bases, by omega, (fun w hw => hw), (fun k b z => by simp at z)⟩ (fun done i rest acc S' e h => ?_) (fun acc S' h => ?_)
  · obtain ⟨pen, B, rfl, hB, bi⟩ := h
    obtain ⟨rfl, hi⟩ := range_at e
    have hb : L[done.length]? = some L[done.length] := List.getElem?_eq_getElem hi
    generalize L[done.length] = b at hb
    have a1 := atI_map (e := boltD) hb
    obtain ⟨N, eN⟩ : ∃ N : Nat, b.n = (N : Int) := ⟨b.n.toNat, by have := ok.n4 b (List.mem_of_getElem? hb); omega⟩
    have hN : ns[done.length]? = some N := by
      rw [hns, List.getElem?_map, hb, Option.map_some, eN]
      simp
    have N4 := n4 _ (List.mem_of_getElem? hN)
    simp [lcS, a1]
    refine r_cuts (by omega) fun us un um ul => ?_
    simp [eN]
    refine r_gaps (N := N) (d := done.length) (dear := 9) pen (by omega) N4.2 (by omega) un (fun u hu => by
      obtain ⟨w, hw, rfl⟩ := um u hu
      rw [List.length_take, (bw w hw).1]
      omega) (by omega) (by omega) fun gs S5 hg hr pen5 => ?_
    simp [sz]
    have nx := bi.snoc (N := N) (by rw [hB]; exact hN) N4.1 N4.2 bw (extra := []) (more' := 0) (by simp) (by simp) (words := us) (by rw [hB]; exact fun w hw => .inl (um w hw)) hg hr
    exact ⟨pen5.mono (by omega), B ++ [⟨N, gs⟩], by simp [boltD], by simp [hB], nx⟩
  · obtain ⟨pen, B, rfl, hB, bi⟩ := h
    rw [List.length_range] at hB pen
    refine q B S' (bi.lock (by omega) (by omega) (by omega)) ?_ (pen.mono (by omega))
    rw [bi.ns, hB, ← nl, List.take_length, eI]
end
end WB
namespace WB
open PySem L2

theorem SB_two {a b : PyData} {m n : Nat} (ha : SB a m) (hb : SB b n) : SB (.tuple [a, b]) (m + n + 7) := by
  refine ⟨?_, ?_, ?_⟩
  · show (a.showable && (b.showable && true)) = true
    rw [ha.sh, hb.sh]; rfl
  · show (a.hasDict || (b.hasDict || false)) = false
    rw [ha.nd, hb.nd]; rfl
  · have := tupleText_len_le (PyData.shownAll [a, b])
    have e1 : ((PyData.shownAll [a, b]).map (·.length)).sum = a.shown.length + (b.shown.length + 0) := rfl
    have e2 : (PyData.shownAll [a, b]).length = 2 := rfl
    have h1 := ha.ln
    have h2 := hb.ln
    show (tupleText (PyData.shownAll [a, b])).length ≤ _
    omega
theorem SB_four {a b c d : PyData} {n1 n2 n3 n4 : Nat} (ha : SB a n1) (hb : SB b n2) (hc : SB c n3) (hd : SB d n4) : SB (.tuple [a, b, c, d]) (n1 + n2 + n3 + n4 + 11) := by
  refine ⟨?_, ?_, ?_⟩
  · show (a.showable && (b.showable && (c.showable && (d.showable && true)))) = true
    rw [ha.sh, hb.sh, hc.sh, hd.sh]; rfl
  · show (a.hasDict || (b.hasDict || (c.hasDict || (d.hasDict || false)))) = false
    rw [ha.nd, hb.nd, hc.nd, hd.nd]; rfl
  · have := tupleText_len_le (PyData.shownAll [a, b, c, d])
    have e1 : ((PyData.shownAll [a, b, c, d]).map (·.length)).sum = a.shown.length + (b.shown.length + (c.shown.length + (d.shown.length + 0))) := rfl
    have e2 : (PyData.shownAll [a, b, c, d]).length = 4 := rfl
    have h1 := ha.ln
    have h2 := hb.ln
    have h3 := hc.ln
    have h4 := hd.ln
    show (tupleText (PyData.shownAll [a, b, c, d])).length ≤ _
    omega
theorem lock_sbS {L : List Bolt} (ok : LockOk L) : SB (lockP L) 1100000 := by
  have l60 := ok.most
  refine (SB_tuple (n := 18300) (m := 60) (fun x hx => ?_) (by rw [List.length_map]; exact l60)).mono (by omega)
  obtain ⟨b, hb, rfl⟩ := List.mem_map.mp hx
  obtain ⟨j, hj, ej⟩ := List.mem_iff_getElem.mp hb
  have bo := ok.bolts j b (by rw [List.getElem?_eq_getElem hj, ej])
  have n4 := boltB_n bo
  have g12 := boltB_gaps bo
  have sm := boltB_sum bo
  have t4 : ∀ c ∈ L.take j, c.n ≤ 4 := fun c hc => (ok.n4 c (List.mem_of_mem_take hc)).2
  have t60 : (L.take j).length ≤ 60 := by rw [List.length_take]; omega
  unfold boltP
  refine (SB_two (m := 7) (n := 18207) (SB_int7 (by omega) (by omega)) ?_).mono (by omega)
  refine (SB_tuple (n := 1515) (m := 12) (fun x hx => ?_) (by rw [List.length_map]; exact g12)).mono (by omega)
  obtain ⟨g, hg, rfl⟩ := List.mem_map.mp hx
  have q := boltB_gap bo hg
  have h1 := q.h
  have h2 := q.t
  have h3 := q.p
  have gl : g.ws.length ≤ 8 := by
    have : g.ws.length ≤ (b.gs.map fun g => g.ws.length).sum := le_sum (List.mem_map.mpr ⟨g, hg, rfl⟩)
    omega
  unfold gapP
  refine (SB_four (n1 := 7) (n2 := 7) (n3 := 7) (n4 := 1483) (SB_int7 (by omega) (by omega)) (SB_int7 (by omega) (by omega)) (SB_int7 (by omega) (by omega)) ?_).mono (by omega)
  refine (SB_tuple (n := 183) (m := 8) (fun x hx => ?_) (by rw [List.length_map]; exact gl)).mono (by omega)
  obtain ⟨w, hw, rfl⟩ := List.mem_map.mp hx
  exact word_sb (q.ws w hw) t4 t60
theorem repr_pair {L M : List Bolt} (okL : LockOk L) (okM : LockOk M) (S : Store) (Q : D → Store → Prop) (X : Exn → Store → Prop) : Ok (biM .repr (.tup [lockD L, lockD M])) S Q X = Q (.str (PyData.tuple [lockP L, lockP M]).shown) S := by
  have e : D.pys [lockD L, lockD M] = some [lockP L, lockP M] := by
    show (match D.py (lockD L), (match D.py (lockD M), (some [] : Option (List PyData)) with | some e, some s => some (e :: s) | _, _ => none) with | some e, some s => some (e :: s) | _, _ => none) = _
    rw [py_lock, py_lock]
  refine repr_ok (n := 2200007) (congrArg (Option.map PyData.tuple) e) (SB_two (lock_sbS okL) (lock_sbS okM)) (by show 2200007 ≤ 16777216; omega) ?_
  have := lock_depth L
  have := lock_depth M
  show max (lockP L).depth (max (lockP M).depth 0) + 1 ≤ 60
  omega
theorem repr_bl (b : Bool) (S : Store) (Q : D → Store → Prop) (X : Exn → Store → Prop) : Ok (biM .repr (.bl b)) S Q X = Q (.str (PyData.bool b).shown) S :=
  repr_ok (n := 5) rfl ⟨rfl, rfl, by cases b <;> decide⟩ (by show 5 ≤ 16777216; omega) (by show 0 ≤ 60; omega)
theorem empty_ok {L : List Bolt} (h1 : 1 ≤ L.length) (h60 : L.length ≤ 60) (hn : ∀ b ∈ L, 2 ≤ b.n ∧ b.n ≤ 4) (hg : ∀ b ∈ L, b.gs = []) : LockOk L := by
  refine ⟨h1, h60, fun k b hk => ?_, [], by simp, fun k b hk w hw => ?_⟩
  · have hb := List.mem_of_getElem? hk
    have e := hg b hb
    exact boltB_mk (hn b hb) (by rw [e]; simp) (by rw [e]; exact List.Pairwise.nil) (by rw [e]; simp)
  · have e := hg b (List.mem_of_getElem? hk)
    unfold waysF at hw
    rw [e] at hw
    cases hw
theorem snoc_ok {L : List Bolt} (ok : LockOk L) (h : L.length < 60) : LockOk (L ++ [⟨2, []⟩]) := by
  obtain ⟨gen, few, from_⟩ := ok.few
  have at_ : ∀ (k : Nat) b, (L ++ [⟨2, []⟩])[k]? = some b → (k < L.length ∧ L[k]? = some b) ∨ (k = L.length ∧ b = ⟨2, []⟩) := fun k b hk => by
    by_cases z : k < L.length
    · rw [List.getElem?_append_left z] at hk
      exact .inl ⟨z, hk⟩
    · rw [List.getElem?_append_right (by omega)] at hk
      have := (List.getElem?_eq_some_iff.mp hk).1
      simp at this
      obtain rfl : k = L.length := by omega
      rw [Nat.sub_self] at hk
      cases hk
      exact .inr ⟨rfl, rfl⟩
  refine ⟨by simp, by simp; omega, fun k b hk => ?_, gen, few, fun k b hk w hw => ?_⟩
  · rcases at_ k b hk with ⟨z, q⟩ | ⟨z, q⟩
    · rw [List.take_append_of_le_length (by omega)]
      exact ok.bolts k b q
    · subst q
      exact boltB_mk (b := ⟨2, []⟩) ⟨by show (2 : Int) ≤ 2; omega, by show (2 : Int) ≤ 4; omega⟩ (by simp) List.Pairwise.nil (by simp)
  · rcases at_ k b hk with ⟨z, q⟩ | ⟨z, q⟩
    · exact from_ k b q w hw
    · subst q
      cases hw
theorem cut_init {α : Type} (xs : List α) (h : 1 ≤ xs.length) : cut xs none (some (-1)) = xs.take (xs.length - 1) := by
  unfold cut
  have e0 : HT.sIx xs.length 0 none = 0 := rfl
  have e1 : HT.sIx xs.length xs.length (some (-1)) = xs.length - 1 := by
    unfold HT.sIx
    simp
    omega
  rw [e0, e1]
  simp
theorem cut_last {α : Type} (xs : List α) (h : 1 ≤ xs.length) : cut xs (some (-1)) none = xs.drop (xs.length - 1) := by
  unfold cut
  have e0 : HT.sIx xs.length xs.length none = xs.length := rfl
  have e1 : HT.sIx xs.length 0 (some (-1)) = xs.length - 1 := by
    unfold HT.sIx
    simp
    omega
  rw [e0, e1]
  rw [List.take_of_length_le (by rw [List.length_drop]; omega)]
section
variable {k n : Nat} {S : Store} {Q : D → Store → Prop} {X : Exn → Store → Prop}
theorem r_faultB {b : Bolt} (hb : boltB [] b = false) (hw : ∀ g ∈ b.gs, g.ws.length < sizeLine) (q : Q (.tup [.str "bolt", .int 0]) S) : Ok (k54at (k + 6) 9 [lockD [b]]) S Q X := by
  have sz : sizeLine = 16777216 := rfl
  refine Ok_go k54d9 k54t9 rfl ?_
  simp [k54d9, k54b9]
  refine r_tuple ?_
  simp
  refine Ok_for (enc := fun p : Bolt × Nat => D.tup [.int p.2, boltD p.1]) (l := [(b, 0)]) (P := fun done ρ S' => S' = S ∧ done = [] ∧ ρ = [some (lockD [b]), none, none, none]) ⟨rfl, rfl, rfl⟩ (fun done p rest ρ S' e h => ?_) (fun ρ S' h => ?_)
  · obtain ⟨rfl, rfl, rfl⟩ := h
    simp at e
    obtain ⟨rfl, rfl⟩ := e
    rw [forS_eq]
    simp
    rw [show cut [boltD b] none (some 0) = [] from cut_take [boltD b] 0]
    refine r_bolt (L := []) (b := b) (by simp [sz]) hw ?_
    rw [hb]
    simp [sz]
    exact q
  · obtain ⟨_, z, _⟩ := h
    cases z
theorem r_fault0 (q : Q (.tup [.str "lock"]) S) : Ok (k54at (k + 6) 9 [.tup []]) S Q X := by
  have sz : sizeLine = 16777216 := rfl
  refine Ok_go k54d9 k54t9 rfl ?_
  simp [k54d9, k54b9]
  refine r_tuple ?_
  simp [sz]
  exact q
theorem r_mustB {b : Bolt} (hb : boltB [] b = false) (hw : ∀ g ∈ b.gs, g.ws.length < sizeLine) (q : X ⟨"NoLock", some ("fault", .tup [.str "bolt", .int 0])⟩ S) : Ok (k54at (k + 7) 10 [lockD [b]]) S Q X := by
  refine Ok_go k54d10 k54t10 rfl ?_
  simp [k54d10, k54b10]
  refine r_faultB hb hw ?_
  simp
  exact q
theorem r_must0 (q : X ⟨"NoLock", some ("fault", .tup [.str "lock"])⟩ S) : Ok (k54at (k + 7) 10 [.tup []]) S Q X := by
  refine Ok_go k54d10 k54t10 rfl ?_
  simp [k54d10, k54b10]
  refine r_fault0 ?_
  simp
  exact q
theorem r_refU {L M : List Bolt} (okL : LockOk L) (okM : LockOk M) (hn : L.map (·.n) ≠ M.map (·.n)) (q : Q (.tup [.str "unlike", .bl true]) S) : Ok (k54at (k + 10) 29 [lockD L, lockD M]) S Q X := by
  have sz : sizeLine = 16777216 := rfl
  refine Ok_go k54d29 k54t29 rfl ?_
  simp [k54d29, k54b29]
  refine Ok_go k54d14 k54t14 rfl ?_
  simp [k54d14, k54b14]
  refine r_unlike okL okM hn ?_
  simp [sz]
  exact q
theorem r_refB {L : List Bolt} {b : Bolt} (okL : LockOk L) (hb : boltB [] b = false) (hw : ∀ g ∈ b.gs, g.ws.length < sizeLine) (q : Q (.tup [.str "fault", .tup [.str "bolt", .int 0]]) S) : Ok (k54at (k + 10) 29 [lockD L, lockD [b]]) S Q X := by
  have sz : sizeLine = 16777216 := rfl
  refine Ok_go k54d29 k54t29 rfl ?_
  simp [k54d29, k54b29, -List.map_cons, -List.map_nil]
  refine Ok_go k54d14 k54t14 rfl ?_
  simp [k54d14, k54b14, -List.map_cons, -List.map_nil]
  refine Ok_go k54d13 k54t13 rfl ?_
  simp [k54d13, k54b13, -List.map_cons, -List.map_nil]
  refine r_must okL ?_
  refine r_mustB hb hw ?_
  simp [sz]
  exact q
theorem r_ref0 (q : Q (.tup [.str "fault", .tup [.str "lock"]]) S) : Ok (k54at (k + 10) 29 [.tup [], .int 5]) S Q X := by
  have sz : sizeLine = 16777216 := rfl
  refine Ok_go k54d29 k54t29 rfl ?_
  simp [k54d29, k54b29]
  refine Ok_go k54d14 k54t14 rfl ?_
  simp [k54d14, k54b14]
  refine Ok_go k54d13 k54t13 rfl ?_
  simp [k54d13, k54b13]
  refine r_must0 ?_
  simp [sz]
  exact q
theorem r_ref5 {b : Bolt} (hb : boltB [] b = false) (hw : ∀ g ∈ b.gs, g.ws.length < sizeLine) (q : Q (.tup [.str "fault", .tup [.str "bolt", .int 0]]) S) : Ok (k54at (k + 10) 29 [lockD [b], .tup []]) S Q X := by
  have sz : sizeLine = 16777216 := rfl
  refine Ok_go k54d29 k54t29 rfl ?_
  simp [k54d29, k54b29, -List.map_cons, -List.map_nil]
  refine Ok_go k54d14 k54t14 rfl ?_
  simp [k54d14, k54b14, -List.map_cons, -List.map_nil]
  refine Ok_go k54d13 k54t13 rfl ?_
  simp [k54d13, k54b13, -List.map_cons, -List.map_nil]
  refine r_mustB hb hw ?_
  simp [sz]
  exact q
end
end WB
namespace WB
open PySem L2

theorem eq_un : eqD (.tup [.str "unlike", .bl true]) (.tup [.str "unlike", .bl true]) = some true := by
  rw [eqD_py (x := .tuple [.str "unlike", .bool true]) (y := .tuple [.str "unlike", .bool true]) rfl rfl (by decide +kernel) (by decide +kernel) (fun _ h => by cases h)]
  exact congrArg some (eqv_self _ (by decide +kernel))
theorem eq_fb : eqD (.tup [.str "fault", .tup [.str "bolt", .int 0]]) (.tup [.str "fault", .tup [.str "bolt", .int 0]]) = some true := by
  rw [eqD_py (x := .tuple [.str "fault", .tuple [.str "bolt", .int 0]]) (y := .tuple [.str "fault", .tuple [.str "bolt", .int 0]]) rfl rfl (by decide +kernel) (by decide +kernel) (fun _ h => by cases h)]
  exact congrArg some (eqv_self _ (by decide +kernel))
theorem eq_fl : eqD (.tup [.str "fault", .tup [.str "lock"]]) (.tup [.str "fault", .tup [.str "lock"]]) = some true := by
  rw [eqD_py (x := .tuple [.str "fault", .tuple [.str "lock"]]) (y := .tuple [.str "fault", .tuple [.str "lock"]]) rfl rfl (by decide +kernel) (by decide +kernel) (fun _ h => by cases h)]
  exact congrArg some (eqv_self _ (by decide +kernel))
def pairD (p : List Bolt × List Bolt) : D := .tup [lockD p.1, lockD p.2]
theorem bad0 : boltB [] ⟨2, [⟨0, 0, 1, []⟩]⟩ = false := by decide
theorem bad5 : boltB [] ⟨5, []⟩ = false := by decide
section
variable {k n : Nat} {S : Store} {Q : D → Store → Prop} {X : Exn → Store → Prop}
theorem r_law {ns : List Int} (h63 : ns.length ≤ 63) : Ok (k54at (k + 11) 30 [.scr (ns.map D.int)]) [] (fun d _ => d = .bl true) noX := by
  have sz : sizeLine = 16777216 := rfl
  refine Ok_go k54d30 k54t30 rfl ?_
  simp [k54d30, k54b30]
  have pen0 : PenOk 0 (penS ns 0 0) := ⟨ns, 0, 0, rfl, by omega, by omega, by omega, h63⟩
  refine r_pen h63 ?_
  simp
  rw [show (5 : Int) = ((5 : Nat) : Int) from rfl, rngV1_nat 5 (by omega)]
  simp
  obtain ⟨P, hP⟩ : ∃ P : List Nat → WB.Env → Store → Prop, P = fun done ρ S' => PenOk (60000 * done.length) S' ∧ ∃ (o2 o3 o4 o5 o6 o7 o8 o9 o10 o11 : Option D), ρ = [some (.scr (ns.map D.int)), some (.ref 0), o2, o3, o4, o5, o6, o7, o8, o9, o10, o11] := ⟨_, rfl⟩
  refine Ok_for (P := P) ?_ (fun done i rest ρ S1 e h => ?_) (fun ρ S' h => ?_)
  · rw [hP]
    exact ⟨pen0, _, _, _, _, _, _, _, _, _, _, rfl⟩
  · rw [hP] at h
    obtain ⟨pen, o2, o3, o4, o5, o6, o7, o8, o9, o10, o11, rfl⟩ := h
    obtain ⟨rfl, hi⟩ := range_at e
    rw [forS_eq]
    simp
    refine r_many pen (by omega) (by omega) fun m S2 m1 m60 pen2 => ?_
    obtain ⟨m, rfl⟩ : ∃ j : Nat, m = j := ⟨m.toNat, by omega⟩
    simp [pow6, sz]
    refine r_pick pen2 (by omega) (by simp) (by simp) (fun x hx => by simp at hx; rcases hx with rfl | rfl <;> rfl) (fun x hx S3 pen3 => ?_)
    obtain ⟨dear, rfl, d1, d2⟩ : ∃ d : Int, x = .int d ∧ 1 ≤ d ∧ d ≤ 1000000 := by
      simp at hx
      rcases hx with rfl | rfl
      · exact ⟨9, rfl, by omega, by omega⟩
      · exact ⟨1000000, rfl, by omega, by omega⟩
    simp
    refine r_lock (m := m) (W := 4) pen3 (by omega) (by omega) (by omega) (by omega) (by omega) (by omega) fun L S4 ok hL pen4 => ?_
    have l60 := ok.most
    have l1 := ok.least
    simp
    refine r_other ok pen4 (by omega) fun M1 S5 ok1 n1 pen5 => ?_
    simp
    refine r_other ok pen5 (by omega) fun M2 S6 ok2 n2 pen6 => ?_
    simp
    refine r_counts ok pen6 (by omega) fun M3 S7 ok3 n3 pen7 => ?_
    simp [sz]
    refine r_pick pen7 (by omega) (by simp) (by simp) (fun x hx => by simp at hx; rcases hx with rfl | rfl | rfl | rfl <;> rfl) (fun x hx S8 pen8 => ?_)
    obtain ⟨N, rfl, okN, nN⟩ : ∃ N, x = lockD N ∧ LockOk N ∧ N.map (·.n) = L.map (·.n) := by
      simp at hx
      rcases hx with rfl | rfl | rfl | rfl
      · exact ⟨M1, rfl, ok1, n1⟩
      · exact ⟨M2, rfl, ok2, n2⟩
      · exact ⟨L, rfl, ok, rfl⟩
      · exact ⟨M3, rfl, ok3, n3⟩
    simp [sz]
    obtain ⟨P2, hP2⟩ : ∃ P2 : List (List Bolt × List Bolt) → WB.Env → Store → Prop, P2 = fun d2 ρ S' => S' = S8 ∧ ∃ (o7 o8 o9 o10 : Option D), ρ = [some (.scr (ns.map D.int)), some (.ref 0), some (.int done.length), some (lockD L), some (lockD N), o5, o6, o7, o8, o9, o10, o11] := ⟨_, rfl⟩
    refine Ok_for (enc := pairD) (l := [(L, N), (N, L), (L, L)]) (P := P2) ?_ (fun d2 p r2 ρ S9 e2 h => ?_) (fun ρ S9 h => ?_)
    · rw [hP2]
      exact ⟨rfl, _, _, _, _, rfl⟩
    · rw [hP2] at h
      obtain ⟨rfl, o7, o8, o9, o10, rfl⟩ := h
      have hp : p ∈ [(L, N), (N, L), (L, L)] := by rw [e2]; simp
      obtain ⟨A, B, rfl, okA, okB, nAB⟩ : ∃ A B, p = (A, B) ∧ LockOk A ∧ LockOk B ∧ A.map (·.n) = B.map (·.n) := by
        simp at hp
        rcases hp with rfl | rfl | rfl
        · exact ⟨L, N, rfl, ok, okN, nN.symm⟩
        · exact ⟨N, L, rfl, okN, ok, nN⟩
        · exact ⟨L, L, rfl, ok, ok, rfl⟩
      rw [forS_eq]
      simp [pairD]
      refine r_due okA okB ?_
      simp [repr_pair okA okB, sz]
      refine r_within okA okB nAB ?_
      simp [repr_bl, repr_pair okA okB, sz]
      rw [hP2]
      exact ⟨rfl, _, _, _, _, rfl⟩
    · rw [hP2] at h
      obtain ⟨rfl, o7, o8, o9, o10, rfl⟩ := h
      simp
      refine r_draw pen8 (by omega) (by omega) (by omega) fun v S10 v0 v1 pen10 => ?_
      obtain ⟨j, rfl⟩ : ∃ j : Nat, v = j := ⟨v.toNat, by omega⟩
      have hj : j < L.length := by omega
      have hb : L[j]? = some L[j] := List.getElem?_eq_getElem hj
      generalize L[j] = b at hb
      have b4 := ok.n4 b (List.mem_of_getElem? hb)
      have a1 := atI_map (e := boltD) hb
      have ej : (j : Int) + 1 = ((j + 1 : Nat) : Int) := by omega
      simp [a1, bin_mod, cut_take, sz]
      obtain ⟨x, hx⟩ : ∃ x : Bolt, x = ⟨2 + (b.n - 1) % 3, []⟩ := ⟨_, rfl⟩
      have xd : D.tup [.int (2 + (b.n - 1) % 3), .tup []] = boltD x := by rw [hx]; rfl
      have xn : 2 ≤ x.n ∧ x.n ≤ 4 ∧ x.n ≠ b.n := by
        rw [hx]
        show 2 ≤ 2 + (b.n - 1) % 3 ∧ 2 + (b.n - 1) % 3 ≤ 4 ∧ 2 + (b.n - 1) % 3 ≠ b.n
        omega
      rw [xd]
      have w1 : binD .add (.tup ((L.map boltD).take j)) (.tup [boltD x]) = some (.tup ((L.take j ++ [x]).map boltD)) := by
        rw [bin_tup (by simp; omega), List.map_append, List.map_take]
        rfl
      have w2 : binD .add (.tup ((L.take j ++ [x]).map boltD)) (.tup (cut (L.map boltD) (some ((j : Int) + 1)) none)) = some (lockD (L.set j x)) := by
        rw [ej, cut_drop, ← List.map_drop, bin_tup (by simp; omega), ← List.map_append, List.set_eq_take_append_cons_drop, if_pos hj]
        simp
      rw [w1]
      simp only [Ok_some]
      rw [w2]
      simp only [Ok_some]
      obtain ⟨W, hW⟩ : ∃ W, W = L.set j x := ⟨_, rfl⟩
      rw [← hW]
      have Wl : W.length = L.length := by rw [hW, List.length_set]
      have Wj : W[j]? = some x := by rw [hW, List.getElem?_set_self hj]
      have Wn : ∀ c ∈ W, 2 ≤ c.n ∧ c.n ≤ 4 := fun c hc => by
        rw [hW] at hc
        rcases List.mem_or_eq_of_mem_set hc with hc | rfl
        · exact ok.n4 c hc
        · exact ⟨xn.1, xn.2.1⟩
      clear hW w1 w2
      simp
      rw [rngV1_nat W.length (by omega)]
      simp
      refine Ok_lcM (P := fun d acc S' => S' = S10 ∧ acc = (W.take d.length).map fun b => boltD ⟨b.n, []⟩) (by simp; omega) ⟨rfl, rfl⟩ (fun d i2 r3 acc S11 e3 h => ?_) (fun acc S11 h => ?_)
      · obtain ⟨rfl, rfl⟩ := h
        obtain ⟨rfl, hd⟩ := range_at e3
        have hc : W[d.length]? = some W[d.length] := List.getElem?_eq_getElem hd
        generalize W[d.length] = c at hc
        have a2 := atI_map (e := boltD) hc
        simp [lcS, a2, sz]
        rw [List.take_add_one, List.getElem?_map, hc]
        rfl
      · obtain ⟨rfl, rfl⟩ := h
        obtain ⟨E, hE⟩ : ∃ E : List Bolt, E = W.map fun b => ⟨b.n, []⟩ := ⟨_, rfl⟩
        have eE : ((W.take (List.range W.length).length).map fun b => boltD ⟨b.n, []⟩) = E.map boltD := by
          rw [List.length_range, List.take_length, hE, List.map_map]
          rfl
        rw [eE]
        have El : E.length = L.length := by rw [hE, List.length_map, Wl]
        have En : E.map (·.n) = W.map (·.n) := by rw [hE, List.map_map]; rfl
        have Eg : ∀ c ∈ E, c.gs = [] := fun c hc => by
          rw [hE] at hc
          obtain ⟨c', _, rfl⟩ := List.mem_map.mp hc
          rfl
        have E4 : ∀ c ∈ E, 2 ≤ c.n ∧ c.n ≤ 4 := fun c hc => by
          rw [hE] at hc
          obtain ⟨c', hc', rfl⟩ := List.mem_map.mp hc
          exact Wn c' hc'
        have okE := empty_ok (L := E) (by omega) (by omega) E4 Eg
        have neE : L.map (·.n) ≠ E.map (·.n) := fun z => by
          rw [En] at z
          have h1 : (L.map (·.n))[j]? = some b.n := by rw [List.getElem?_map, hb]; rfl
          have h2 : (W.map (·.n))[j]? = some x.n := by rw [List.getElem?_map, Wj]; rfl
          rw [z, h2] at h1
          exact xn.2.2 (Option.some.inj h1)
        clear hE eE En
        have lL : (L.map boltD).length = L.length := List.length_map _
        have lE : (E.map boltD).length = E.length := List.length_map _
        have w3 : binD .add (.tup (cut (L.map boltD) none (some (-1)))) (.tup (cut (L.map boltD) (some (-1)) none)) = some (lockD L) := by
          rw [cut_init _ (by omega), cut_last _ (by omega), bin_tup (by rw [List.length_take, List.length_drop]; omega), List.take_append_drop]
        obtain ⟨A2, hA2⟩ : ∃ A2 : List Bolt, A2 = L ++ [⟨2, []⟩] := ⟨_, rfl⟩
        obtain ⟨A3, hA3⟩ : ∃ A3 : List Bolt, A3 = E.take (E.length - 1) ++ [⟨2, []⟩, ⟨3, []⟩] := ⟨_, rfl⟩
        have w4 : binD .add (lockD L) (.tup [.tup [.int 2, .tup []]]) = some (lockD A2) := by
          rw [hA2, bin_tup (by simp; omega)]
          simp [boltD]
        have w5 : binD .add (.tup (cut (E.map boltD) none (some (-1)))) (.tup [.tup [.int 2, .tup []], .tup [.int 3, .tup []]]) = some (lockD A3) := by
          rw [hA3, cut_init _ (by omega), lE, bin_tup (by simp; omega)]
          simp [boltD]
        have okA2 : A2.length ≤ 60 → LockOk A2 := fun z => by
          rw [hA2] at z ⊢
          simp at z
          exact snoc_ok ok (by omega)
        have neA2 : L.map (·.n) ≠ A2.map (·.n) := fun z => by
          have := congrArg List.length z
          rw [hA2] at this
          simp at this
        have okA3 : A3.length ≤ 60 → LockOk A3 := fun z => by
          refine empty_ok (by rw [hA3]; simp) z (fun c hc => ?_) (fun c hc => ?_)
          · rw [hA3] at hc
            rcases List.mem_append.mp hc with hc | hc
            · exact E4 c (List.mem_of_mem_take hc)
            · simp at hc
              rcases hc with rfl | rfl
              · exact ⟨by show (2 : Int) ≤ 2; omega, by show (2 : Int) ≤ 4; omega⟩
              · exact ⟨by show (2 : Int) ≤ 3; omega, by show (3 : Int) ≤ 4; omega⟩
          · rw [hA3] at hc
            rcases List.mem_append.mp hc with hc | hc
            · exact Eg c (List.mem_of_mem_take hc)
            · simp at hc
              rcases hc with rfl | rfl <;> rfl
        have neA3 : L.map (·.n) ≠ A3.map (·.n) := fun z => by
          have := congrArg List.length z
          rw [hA3] at this
          simp at this
          omega
        clear hA2 hA3
        rw [w3]
        simp only [Ok_some]
        refine ⟨by omega, by omega, ?_⟩
        rw [w4]
        simp only [Ok_some, hand_tup, Ok_ret]
        refine ⟨by omega, ?_⟩
        rw [w5]
        simp only [Ok_some, hand_tup, Ok_ret]
        refine ⟨by omega, ?_⟩
        obtain ⟨P3, hP3⟩ : ∃ P3 : List (List Bolt) → WB.Env → Store → Prop, P3 = fun d3 ρ S' => S' = S11 ∧ ∃ (o7 : Option D), ρ = [some (.scr (ns.map D.int)), some (.ref 0), some (.int done.length), some (lockD L), some (lockD N), some (.int j), some (lockD E), o7, o8, o9, o10, o11] := ⟨_, rfl⟩
        refine Ok_for (enc := lockD) (l := [E, A2, A3]) (P := P3) ?_ (fun d3 p r3 ρ S12 e3 h => ?_) (fun ρ S12 h => ?_)
        · rw [hP3]
          exact ⟨rfl, _, rfl⟩
        · rw [hP3] at h
          obtain ⟨rfl, o7, rfl⟩ := h
          have hp : p ∈ [E, A2, A3] := by rw [e3]; simp
          obtain ⟨okp, nep⟩ : (p.length ≤ 60 → LockOk p) ∧ L.map (·.n) ≠ p.map (·.n) := by
            simp at hp
            rcases hp with rfl | rfl | rfl
            · exact ⟨fun _ => okE, neE⟩
            · exact ⟨okA2, neA2⟩
            · exact ⟨okA3, neA3⟩
          rw [forS_eq]
          by_cases z : p.length ≤ 60
          · have z' : (p.length : Int) ≤ 60 := by omega
            simp [z']
            refine r_refU ok (okp z) nep ?_
            simp [eq_un, sz]
            rw [hP3]
            exact ⟨rfl, _, rfl⟩
          · have z' : ¬ (p.length : Int) ≤ 60 := by omega
            simp [z']
            rw [hP3]
            exact ⟨rfl, _, rfl⟩
        · rw [hP3] at h
          obtain ⟨rfl, o7, rfl⟩ := h
          simp [sz]
          refine r_refB (b := ⟨2, [⟨0, 0, 1, []⟩]⟩) okE bad0 (by simp [sz]) ?_
          simp [eq_fb, sz]
          refine r_ref0 ?_
          simp [eq_fl, sz]
          refine r_ref5 (b := ⟨5, []⟩) bad5 (by simp) ?_
          simp [eq_fb, sz]
          rw [hP]
          exact ⟨pen10.mono (by simp; omega), _, _, _, _, _, _, _, _, _, _, rfl⟩

  · rw [hP] at h
    obtain ⟨pen, o2, o3, o4, o5, o6, o7, o8, o9, o10, o11, rfl⟩ := h
    simp
end
end WB
namespace WB
open PySem L2
theorem k54names : ∀ x i, (x, i) ∈ k54fns → ∃ d, k54tab[i]? = some d ∧ d.x = x := by
  intro x i h
  simp only [k54fns, List.mem_cons, Prod.mk.injEq, List.not_mem_nil, or_false] at h
  rcases h with ⟨rfl, rfl⟩ | ⟨rfl, rfl⟩ | ⟨rfl, rfl⟩ | ⟨rfl, rfl⟩ | ⟨rfl, rfl⟩ | ⟨rfl, rfl⟩ | ⟨rfl, rfl⟩ | ⟨rfl, rfl⟩ | ⟨rfl, rfl⟩ | ⟨rfl, rfl⟩ | ⟨rfl, rfl⟩ | ⟨rfl, rfl⟩ | ⟨rfl, rfl⟩ | ⟨rfl, rfl⟩ | ⟨rfl, rfl⟩ | ⟨rfl, rfl⟩ | ⟨rfl, rfl⟩ | ⟨rfl, rfl⟩ | ⟨rfl, rfl⟩ | ⟨rfl, rfl⟩ | ⟨rfl, rfl⟩ | ⟨rfl, rfl⟩ | ⟨rfl, rfl⟩ | ⟨rfl, rfl⟩ | ⟨rfl, rfl⟩ | ⟨rfl, rfl⟩ | ⟨rfl, rfl⟩ | ⟨rfl, rfl⟩ | ⟨rfl, rfl⟩ | ⟨rfl, rfl⟩ | ⟨rfl, rfl⟩
  · exact ⟨k54d0, rfl, rfl⟩
  · exact ⟨k54d1, rfl, rfl⟩
  · exact ⟨k54d2, rfl, rfl⟩
  · exact ⟨k54d3, rfl, rfl⟩
  · exact ⟨k54d4, rfl, rfl⟩
  · exact ⟨k54d5, rfl, rfl⟩
  · exact ⟨k54d6, rfl, rfl⟩
  · exact ⟨k54d7, rfl, rfl⟩
  · exact ⟨k54d8, rfl, rfl⟩
  · exact ⟨k54d9, rfl, rfl⟩
  · exact ⟨k54d10, rfl, rfl⟩
  · exact ⟨k54d11, rfl, rfl⟩
  · exact ⟨k54d12, rfl, rfl⟩
  · exact ⟨k54d13, rfl, rfl⟩
  · exact ⟨k54d14, rfl, rfl⟩
  · exact ⟨k54d15, rfl, rfl⟩
  · exact ⟨k54d16, rfl, rfl⟩
  · exact ⟨k54d17, rfl, rfl⟩
  · exact ⟨k54d18, rfl, rfl⟩
  · exact ⟨k54d19, rfl, rfl⟩
  · exact ⟨k54d20, rfl, rfl⟩
  · exact ⟨k54d21, rfl, rfl⟩
  · exact ⟨k54d22, rfl, rfl⟩
  · exact ⟨k54d23, rfl, rfl⟩
  · exact ⟨k54d24, rfl, rfl⟩
  · exact ⟨k54d25, rfl, rfl⟩
  · exact ⟨k54d26, rfl, rfl⟩
  · exact ⟨k54d27, rfl, rfl⟩
  · exact ⟨k54d28, rfl, rfl⟩
  · exact ⟨k54d29, rfl, rfl⟩
  · exact ⟨k54d30, rfl, rfl⟩
theorem k54looks : ∀ d ∈ k54tab, chkD k54fns k54cstN k54ct d = true := List.all_eq_true.mp k54look
theorem k54due (ns : List Int) (h : ns.length ≤ 63) : ∃ S, k54at 11 30 [.scr (ns.map D.int)] [] = .ok (.bl true) S := by
  obtain ⟨d, S, e, rfl⟩ := (r_law (k := 0) h).run
  exact ⟨S, e⟩
theorem k54end {P : Program} {w : World} {K : PySem.W.Frag} {mg : Str → Option Value} {fa : Addr} (hct : CtOk K mg k54ct) (hm : mg "law" = some (.ref fa)) (h0 : Has K mg k54d0) (h1 : Has K mg k54d1) (h2 : Has K mg k54d2) (h3 : Has K mg k54d3) (h4 : Has K mg k54d4) (h5 : Has K mg k54d5) (h6 : Has K mg k54d6) (h7 : Has K mg k54d7) (h8 : Has K mg k54d8) (h9 : Has K mg k54d9) (h10 : Has K mg k54d10) (h11 : Has K mg k54d11) (h12 : Has K mg k54d12) (h13 : Has K mg k54d13) (h14 : Has K mg k54d14) (h15 : Has K mg k54d15) (h16 : Has K mg k54d16) (h17 : Has K mg k54d17) (h18 : Has K mg k54d18) (h19 : Has K mg k54d19) (h20 : Has K mg k54d20) (h21 : Has K mg k54d21) (h22 : Has K mg k54d22) (h23 : Has K mg k54d23) (h24 : Has K mg k54d24) (h25 : Has K mg k54d25) (h26 : Has K mg k54d26) (h27 : Has K mg k54d27) (h28 : Has K mg k54d28) (h29 : Has K mg k54d29) (h30 : Has K mg k54d30) (c0 : ∃ v u, mg "MOST_PRICE" = some u ∧ RelV v u ∧ ∀ G H, Rl0 K G H v (.int 1000000)) (c1 : ∃ v u, mg "MOST_BOLTS" = some u ∧ RelV v u ∧ ∀ G H, Rl0 K G H v (.int 60)) (c2 : ∃ v u, mg "MOST_WAYS" = some u ∧ RelV v u ∧ ∀ G H, Rl0 K G H v (.int 8)) (c3 : ∃ v u, mg "MOST_WORDS" = some u ∧ RelV v u ∧ ∀ G H, Rl0 K G H v (.int 8)) (b0 : mg "len" = none) (b1 : mg "all" = none) (b2 : mg "sum" = none) (b3 : mg "tuple" = none) (b4 : mg "list" = none) (b5 : mg "abs" = none) (b6 : mg "int" = none) (b7 : mg "repr" = none) (b8 : mg "sorted" = none) (b9 : mg "set" = none) (b10 : mg "isinstance" = none) (b11 : mg "bool" = none) (b12 : mg "str" = none) (b13 : mg "dict" = none) (b14 : mg "range" = none) (b15 : mg "enumerate" = none) (b16 : mg "zip" = none) (b17 : mg "min" = none) (b18 : mg "max" = none) :
    ∃ fd : FuncData, (∀ (s : Shared) (u : Value), BindsTo s fd ⟨[u], []⟩ [("_law_script", u)]) ∧ ∀ base : Heap, (∃ o, base.get? sysModules = some o) → FnG P w K mg base 11 fa fd ["_law_script"] (k54at 11 30) := by
  refine end_G hct (i := 30) (d := k54d30) rfl rfl hm k54names (fun x j d hx hj => ?_) (fun x hx => ?_) (fun d hd => ?_) k54looks
  · simp only [k54cstN, List.mem_cons, Prod.mk.injEq, List.not_mem_nil, or_false] at hx
    rcases hx with ⟨rfl, rfl⟩ | ⟨rfl, rfl⟩ | ⟨rfl, rfl⟩ | ⟨rfl, rfl⟩
    · cases hj
      exact c0
    · cases hj
      exact c1
    · cases hj
      exact c2
    · cases hj
      exact c3
  · simp only [bltNames, List.mem_cons, List.not_mem_nil, or_false] at hx
    rcases hx with rfl | rfl | rfl | rfl | rfl | rfl | rfl | rfl | rfl | rfl | rfl | rfl | rfl | rfl | rfl | rfl | rfl | rfl | rfl
    · exact b0
    · exact b1
    · exact b2
    · exact b3
    · exact b4
    · exact b5
    · exact b6
    · exact b7
    · exact b8
    · exact b9
    · exact b10
    · exact b11
    · exact b12
    · exact b13
    · exact b14
    · exact b15
    · exact b16
    · exact b17
    · exact b18
  · simp only [k54tab, List.mem_cons, List.not_mem_nil, or_false] at hd
    rcases hd with rfl | rfl | rfl | rfl | rfl | rfl | rfl | rfl | rfl | rfl | rfl | rfl | rfl | rfl | rfl | rfl | rfl | rfl | rfl | rfl | rfl | rfl | rfl | rfl | rfl | rfl | rfl | rfl | rfl | rfl | rfl
    · exact h0
    · exact h1
    · exact h2
    · exact h3
    · exact h4
    · exact h5
    · exact h6
    · exact h7
    · exact h8
    · exact h9
    · exact h10
    · exact h11
    · exact h12
    · exact h13
    · exact h14
    · exact h15
    · exact h16
    · exact h17
    · exact h18
    · exact h19
    · exact h20
    · exact h21
    · exact h22
    · exact h23
    · exact h24
    · exact h25
    · exact h26
    · exact h27
    · exact h28
    · exact h29
    · exact h30
theorem k54ctok {K : PySem.W.Frag} {mg : Str → Option Value} (r0_0 : Rs0Ok K mg "Unlike") (r1_0 : Rs1Ok K mg "NoLock" "fault") (sb_0 : SubOk K mg "NoLock" "Unlike" false) (sb_1 : SubOk K mg "Unlike" "Unlike" true) (sb_2 : SubOk K mg "NoLock" "NoLock" true) (is_0 : IsOk K mg "Unlike" "ValueError" true) (fl_0 : FldOk K "NoLock" "fault") : CtOk K mg k54ct := by
  refine ⟨fun x h => ?_, fun x f h => ?_, fun x t b h => ?_, fun x t b h => ?_, fun x f h => ?_⟩
  · simp only [k54ct, List.mem_cons, Prod.mk.injEq, List.not_mem_nil, or_false] at h
    obtain rfl := h
    exact r0_0
  · simp only [k54ct, List.mem_cons, Prod.mk.injEq, List.not_mem_nil, or_false] at h
    obtain ⟨rfl, rfl⟩ := h
    exact r1_0
  · simp only [k54ct, List.mem_cons, Prod.mk.injEq, List.not_mem_nil, or_false] at h
    rcases h with ⟨rfl, rfl, rfl⟩ | ⟨rfl, rfl, rfl⟩ | ⟨rfl, rfl, rfl⟩
    · exact sb_0
    · exact sb_1
    · exact sb_2
  · simp only [k54ct, List.mem_cons, Prod.mk.injEq, List.not_mem_nil, or_false] at h
    obtain ⟨rfl, rfl, rfl⟩ := h
    exact is_0
  · simp only [k54ct, List.mem_cons, Prod.mk.injEq, List.not_mem_nil, or_false] at h
    obtain ⟨rfl, rfl⟩ := h
    exact fl_0
end WB
open PySem PySem.W PyProof.Rows
set_option maxHeartbeats 0 in
theorem PySem.Challenge.cw_waitbolts_k54_locks_within_one_another_holds : PySem.Challenge.rw_waitbolts_k54_locks_within_one_another.Holds := by
  w_on; o_law; k_head; (case hw => w_witness2)
  k_fill
  refine WB.walkG (l := PySem.Challenge.rw_waitbolts_k54_locks_within_one_another) (n := 63) (k := 11) (x := "_law_script") (fn := WB.k54at 11 30) (by decide +kernel) rfl (by decide) rfl ⟨⟨rfl, by decide, by decide⟩, rfl⟩ (fun w h Y => PySem.W.kIn_of Y) ?F WB.k54due
  case F =>
    intro w mg fa h KX G hmg
    refine' WB.k54end ?ct hmg ?h0 ?h1 ?h2 ?h3 ?h4 ?h5 ?h6 ?h7 ?h8 ?h9 ?h10 ?h11 ?h12 ?h13 ?h14 ?h15 ?h16 ?h17 ?h18 ?h19 ?h20 ?h21 ?h22 ?h23 ?h24 ?h25 ?h26 ?h27 ?h28 ?h29 ?h30 ?c0 ?c1 ?c2 ?c3 ?b0 ?b1 ?b2 ?b3 ?b4 ?b5 ?b6 ?b7 ?b8 ?b9 ?b10 ?b11 ?b12 ?b13 ?b14 ?b15 ?b16 ?b17 ?b18
    (case ct =>
      refine' WB.k54ctok ?r0_0 ?r1_0 ?sb_0 ?sb_1 ?sb_2 ?is_0 ?fl_0
      (case r0_0 => refine' WB.rs0_mk KX G ?zr0q0a ?zr0q0g1 ?zr0q0g2 ?zr0q0g3 ?zr0q0g4; (case zr0q0a => k_is); (case zr0q0g1 => k_is); (case zr0q0g2 => (first | k_exc | (show PySem.W.excIn _ _ [.type "ValueError", .type "Exception", .type "BaseException", .type "object"] _ = true; k_exc) | decide +kernel)); (case zr0q0g3 => k_is); (case zr0q0g4 => k_is))
      (case r1_0 => refine' WB.rs1_mk WB.k54init_NoLock (bn := "BoltError") KX G ?zr1q0a ?zr1q0g0 ?zr1q0g1 ?zr1q0g2 ?zr1q0g3 ?zr1q0g4 ?zr1q0g5 ?zr1q0i1 ?zr1q0i2 ?zr1q0i3 ?zr1q0l ?zr1q0c ?zr1q0kp (fun us hl => match us, hl with | [_, _], _ => rfl) (by decide +kernel) ?zr1q0c1 ?zr1q0c2 ?zr1q0c3 ?zr1q0c4; (case zr1q0a => k_is); (case zr1q0g0 => k_is); (case zr1q0g1 => decide +kernel); (case zr1q0g2 => k_is); (case zr1q0g3 => k_is); (case zr1q0g4 => k_is); (case zr1q0g5 => k_is); (case zr1q0i1 => k_is); (case zr1q0i2 => k_is); (case zr1q0i3 => k_is); (case zr1q0l => k_is); (case zr1q0c => k_is); (case zr1q0kp => k_is); (case zr1q0c1 => k_is); (case zr1q0c2 => k_is); (case zr1q0c3 => k_is); (case zr1q0c4 => k_is))
      (case sb_0 => refine' WB.sub_mk (WB.cls_own KX G ?zsbq0cc) ?zsbq0a ?zsbq0k; (case zsbq0cc => k_is); (case zsbq0a => k_is); (case zsbq0k => kts_exm))
      (case sb_1 => refine' WB.sub_mk (WB.cls_own KX G ?zsbq1cc) ?zsbq1a ?zsbq1k; (case zsbq1cc => k_is); (case zsbq1a => k_is); (case zsbq1k => kts_exm))
      (case sb_2 => refine' WB.sub_mk (WB.cls_own KX G ?zsbq2cc) ?zsbq2a ?zsbq2k; (case zsbq2cc => k_is); (case zsbq2a => k_is); (case zsbq2k => kts_exm))
      (case is_0 => refine' WB.is_mk (WB.cls_blt (n := "ValueError") KX G ?zisq0cc (by decide +kernel) (by decide)) ?zisq0a ?zisq0g1 ?zisq0g2 ?zisq0g3 ?zisq0g4 ?zisq0g5 ?zisq0g6 ?zisq0g7 ?zisq0g8 ?zisq0k; (case zisq0cc => k_is); (case zisq0a => k_is); (case zisq0g1 => k_is); (case zisq0g2 => k_is); (case zisq0g3 => k_is); (case zisq0g4 => k_is); (case zisq0g5 => k_is); (case zisq0g6 => k_is); (case zisq0g7 => k_is); (case zisq0g8 => k_is); (case zisq0k => kit_is))
      (case fl_0 => refine' WB.fld_mk ?zflq0a ?zflq0g1 ?zflq0g2 ?zflq0g3 ?zflq0g4 ?zflq0n; (case zflq0a => k_is); (case zflq0g1 => k_is); (case zflq0g2 => k_is); (case zflq0g3 => k_is); (case zflq0g4 => k_is); (case zflq0n => k_is))
      done)
    (case h0 => refine' WB.has_mk KX G ?a ?l ?c ?k (fun _ _ _ _ _ _ us hl => match us, hl with | [_], _ => rfl); (case a => k_is); (case l => k_is); (case c => k_is); (case k => k_is))
    (case h1 => refine' WB.has_mk KX G ?a ?l ?c ?k (fun _ _ _ _ _ _ us hl => match us, hl with | [_, _, _], _ => rfl); (case a => k_is); (case l => k_is); (case c => k_is); (case k => k_is))
    (case h2 => refine' WB.has_mk KX G ?a ?l ?c ?k (fun _ _ _ _ _ _ us hl => match us, hl with | [_, _, _], _ => rfl); (case a => k_is); (case l => k_is); (case c => k_is); (case k => k_is))
    (case h3 => refine' WB.has_mk KX G ?a ?l ?c ?k (fun _ _ _ _ _ _ us hl => match us, hl with | [_, _, _], _ => rfl); (case a => k_is); (case l => k_is); (case c => k_is); (case k => k_is))
    (case h4 => refine' WB.has_mk KX G ?a ?l ?c ?k (fun _ _ _ _ _ _ us hl => match us, hl with | [_], _ => rfl); (case a => k_is); (case l => k_is); (case c => k_is); (case k => k_is))
    (case h5 => refine' WB.has_mk KX G ?a ?l ?c ?k (fun _ _ _ _ _ _ us hl => match us, hl with | [_, _, _], _ => rfl); (case a => k_is); (case l => k_is); (case c => k_is); (case k => k_is))
    (case h6 => refine' WB.has_mk KX G ?a ?l ?c ?k (fun _ _ _ _ _ _ us hl => match us, hl with | [_, _], _ => rfl); (case a => k_is); (case l => k_is); (case c => k_is); (case k => k_is))
    (case h7 => refine' WB.has_mk KX G ?a ?l ?c ?k (fun _ _ _ _ _ _ us hl => match us, hl with | [_], _ => rfl); (case a => k_is); (case l => k_is); (case c => k_is); (case k => k_is))
    (case h8 => refine' WB.has_mk KX G ?a ?l ?c ?k (fun _ _ _ _ _ _ us hl => match us, hl with | [_], _ => rfl); (case a => k_is); (case l => k_is); (case c => k_is); (case k => k_is))
    (case h9 => refine' WB.has_mk KX G ?a ?l ?c ?k (fun _ _ _ _ _ _ us hl => match us, hl with | [_], _ => rfl); (case a => k_is); (case l => k_is); (case c => k_is); (case k => k_is))
    (case h10 => refine' WB.has_mk KX G ?a ?l ?c ?k (fun _ _ _ _ _ _ us hl => match us, hl with | [_], _ => rfl); (case a => k_is); (case l => k_is); (case c => k_is); (case k => k_is))
    (case h11 => refine' WB.has_mk KX G ?a ?l ?c ?k (fun _ _ _ _ _ _ us hl => match us, hl with | [_, _, _, _], _ => rfl); (case a => k_is); (case l => k_is); (case c => k_is); (case k => k_is))
    (case h12 => refine' WB.has_mk KX G ?a ?l ?c ?k (fun _ _ _ _ _ _ us hl => match us, hl with | [_, _, _, _], _ => rfl); (case a => k_is); (case l => k_is); (case c => k_is); (case k => k_is))
    (case h13 => refine' WB.has_mk KX G ?a ?l ?c ?k (fun _ _ _ _ _ _ us hl => match us, hl with | [_, _], _ => rfl); (case a => k_is); (case l => k_is); (case c => k_is); (case k => k_is))
    (case h14 => refine' WB.has_mk KX G ?a ?l ?c ?k (fun _ _ _ _ _ _ us hl => match us, hl with | [_, _], _ => rfl); (case a => k_is); (case l => k_is); (case c => k_is); (case k => k_is))
    (case h15 => refine' WB.has_mk KX G ?a ?l ?c ?k (fun _ _ _ _ _ _ us hl => match us, hl with | [_], _ => rfl); (case a => k_is); (case l => k_is); (case c => k_is); (case k => k_is))
    (case h16 => refine' WB.has_mk KX G ?a ?l ?c ?k (fun _ _ _ _ _ _ us hl => match us, hl with | [_, _], _ => rfl); (case a => k_is); (case l => k_is); (case c => k_is); (case k => k_is))
    (case h17 => refine' WB.has_mk KX G ?a ?l ?c ?k (fun _ _ _ _ _ _ us hl => match us, hl with | [_, _], _ => rfl); (case a => k_is); (case l => k_is); (case c => k_is); (case k => k_is))
    (case h18 => refine' WB.has_mk KX G ?a ?l ?c ?k (fun _ _ _ _ _ _ us hl => match us, hl with | [_, _], _ => rfl); (case a => k_is); (case l => k_is); (case c => k_is); (case k => k_is))
    (case h19 => refine' WB.has_mk KX G ?a ?l ?c ?k (fun _ _ _ _ _ _ us hl => match us, hl with | [_, _], _ => rfl); (case a => k_is); (case l => k_is); (case c => k_is); (case k => k_is))
    (case h20 => refine' WB.has_mk KX G ?a ?l ?c ?k (fun _ _ _ _ _ _ us hl => match us, hl with | [_, _, _], _ => rfl); (case a => k_is); (case l => k_is); (case c => k_is); (case k => k_is))
    (case h21 => refine' WB.has_mk KX G ?a ?l ?c ?k (fun _ _ _ _ _ _ us hl => match us, hl with | [_, _], _ => rfl); (case a => k_is); (case l => k_is); (case c => k_is); (case k => k_is))
    (case h22 => refine' WB.has_mk KX G ?a ?l ?c ?k (fun _ _ _ _ _ _ us hl => match us, hl with | [_, _], _ => rfl); (case a => k_is); (case l => k_is); (case c => k_is); (case k => k_is))
    (case h23 => refine' WB.has_mk KX G ?a ?l ?c ?k (fun _ _ _ _ _ _ us hl => match us, hl with | [_, _, _, _], _ => rfl); (case a => k_is); (case l => k_is); (case c => k_is); (case k => k_is))
    (case h24 => refine' WB.has_mk KX G ?a ?l ?c ?k (fun _ _ _ _ _ _ us hl => match us, hl with | [_, _, _, _], _ => rfl); (case a => k_is); (case l => k_is); (case c => k_is); (case k => k_is))
    (case h25 => refine' WB.has_mk KX G ?a ?l ?c ?k (fun _ _ _ _ _ _ us hl => match us, hl with | [_], _ => rfl); (case a => k_is); (case l => k_is); (case c => k_is); (case k => k_is))
    (case h26 => refine' WB.has_mk KX G ?a ?l ?c ?k (fun _ _ _ _ _ _ us hl => match us, hl with | [_, _], _ => rfl); (case a => k_is); (case l => k_is); (case c => k_is); (case k => k_is))
    (case h27 => refine' WB.has_mk KX G ?a ?l ?c ?k (fun _ _ _ _ _ _ us hl => match us, hl with | [_, _], _ => rfl); (case a => k_is); (case l => k_is); (case c => k_is); (case k => k_is))
    (case h28 => refine' WB.has_mk KX G ?a ?l ?c ?k (fun _ _ _ _ _ _ us hl => match us, hl with | [_, _], _ => rfl); (case a => k_is); (case l => k_is); (case c => k_is); (case k => k_is))
    (case h29 => refine' WB.has_mk KX G ?a ?l ?c ?k (fun _ _ _ _ _ _ us hl => match us, hl with | [_, _], _ => rfl); (case a => k_is); (case l => k_is); (case c => k_is); (case k => k_is))
    (case h30 => refine' WB.has_mk KX G ?a ?l ?c ?k (fun _ _ _ _ _ _ us hl => match us, hl with | [_], _ => rfl); (case a => k_is); (case l => k_is); (case c => k_is); (case k => k_is))
    (case c0 => refine' WB.cst_int KX G ?a; (case a => k_is))
    (case c1 => refine' WB.cst_int KX G ?a; (case a => k_is))
    (case c2 => refine' WB.cst_int KX G ?a; (case a => k_is))
    (case c3 => refine' WB.cst_int KX G ?a; (case a => k_is))
    (case b0 => refine' PySem.W.mg_none_of KX G ?a; (case a => k_is))
    (case b1 => refine' PySem.W.mg_none_of KX G ?a; (case a => k_is))
    (case b2 => refine' PySem.W.mg_none_of KX G ?a; (case a => k_is))
    (case b3 => refine' PySem.W.mg_none_of KX G ?a; (case a => k_is))
    (case b4 => refine' PySem.W.mg_none_of KX G ?a; (case a => k_is))
    (case b5 => refine' PySem.W.mg_none_of KX G ?a; (case a => k_is))
    (case b6 => refine' PySem.W.mg_none_of KX G ?a; (case a => k_is))
    (case b7 => refine' PySem.W.mg_none_of KX G ?a; (case a => k_is))
    (case b8 => refine' PySem.W.mg_none_of KX G ?a; (case a => k_is))
    (case b9 => refine' PySem.W.mg_none_of KX G ?a; (case a => k_is))
    (case b10 => refine' PySem.W.mg_none_of KX G ?a; (case a => k_is))
    (case b11 => refine' PySem.W.mg_none_of KX G ?a; (case a => k_is))
    (case b12 => refine' PySem.W.mg_none_of KX G ?a; (case a => k_is))
    (case b13 => refine' PySem.W.mg_none_of KX G ?a; (case a => k_is))
    (case b14 => refine' PySem.W.mg_none_of KX G ?a; (case a => k_is))
    (case b15 => refine' PySem.W.mg_none_of KX G ?a; (case a => k_is))
    (case b16 => refine' PySem.W.mg_none_of KX G ?a; (case a => k_is))
    (case b17 => refine' PySem.W.mg_none_of KX G ?a; (case a => k_is))
    (case b18 => refine' PySem.W.mg_none_of KX G ?a; (case a => k_is))
