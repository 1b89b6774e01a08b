import PyProof.Rows.All
import Wide.All
import OpenK.AllK
import Wide.FinOn
import HandS.ForMost
import KE.LtData
import KE.KDictKeyed
import KE.KeyNested
import HandS.ForExc
import HandS.TupAny
import HandS.TupMul
import HandS.TupLe
import HandS.Deep
import HandS.Wide
import PyProof.ListMulRoad
import PyProof.FactsAll.tuple_2
import KE.KxIndex
import PyProof.P3In
import KE.LtSeq
import HandS.Dict
import PyProof.EqAt
import HandS.SetFor
import HandS.IsInst
import HandS.Style
import HandS.TupLen
import HandS.Conv
import HandS.Flow
import HandS.CallSlots
import HandS.Property
import HandS.Iter
import HandS.Comp
import KE.SortData
import PyProof.Rows.SortWalk
import KE.GoesMore
import HandS.OwnEq
import HandS.Defaults
import HandS.WordsExc
import KE.KStateDown
import HandS.Ends
import HandS.Words
import HandS.Head0
import HandS.Head1
import HandS.Head2
import HandS.HeadEnd
import HandS.HeadHook1
import HandS.HeadHook2
import HandS.HeadHook4
import KE.DataMinMax
import HandS.Strs
import HandS.RevRange
import KE.KDictDisplayH
import PyProof.Rows.TupDisplay
import HandS.Exc
import HandS.ExcOwn
import HandS.ExcInit
import HandS.ExcField
import HandS.ExcIs
import KE.KExcIs
import HandS.Text
import KE.KDictWalk
import KE.GoesEnum
import KE.KRevIter
import HandS.NamedTupGet
import HandS.ExcBuiltin
import PySem.Challenge.RW_placetrade_k17_whole_roots_and_powers
set_option Elab.async false
set_option linter.all false
set_option autoImplicit false
set_option maxRecDepth 100000
set_option maxHeartbeats 4000000
/-! The IR and its interpreter: pure data, a store of mutable objects. -/
namespace Itp
open PySem L2

abbrev D := PyData
/-- a frozen instance of the class c -/
def mkIns (c : Nat) (fs : List D) : D := .dict ((.none, .int c) :: fs.map fun f => (.none, f))

/-- what a name holds: data, an object of the store, the script, a caught exception -/
inductive Vl where
  | d (x : D) | r (n : Nat) | s (ns : List Int) | x (c : Nat) (fs : List D)

/-- an object of the store -/
inductive O where
  | lst (ds : List D) | dic (kvs : List (D × D)) | ins (c : Nat) (fs : List (Str × D)) | src (st : Int) (cs : List Int) (ix : Int) | dead | dk0

abbrev Sto := List O
abbrev Ev := List (Option Vl)

inductive Re (α : Type) where
  | ok (a : α) (S : Sto) | ex (c : Nat) (fs : List D) (S : Sto) | er

@[inline] def Re.bind {α β : Type} (x : Re α) (f : α → Sto → Re β) : Re β := match x with
  | .ok a S => f a S
  | .ex c fs S => .ex c fs S
  | .er => .er

inductive BOp where | add | sub | mul | fdiv | mod | pow
inductive COp where | eq | ne | lt | le | gt | ge | isN | notN | isIn | notIn
/-- built-in calls of one argument -/
inductive B1 where | len | tuple | list | sorted | sortedSet | lenSet | min | max | sum | int
inductive B2 where | min | max
inductive Ty where | int | bool | tuple | str | list | cls (c : Nat)
/-- built-in methods -/
inductive Mt where | append | extend | pop | popAt | reverse | countT | countL | index | indexT | get | join | find

inductive E where
  | var (i : Nat)
  | con (d : D)
  | glb (x : Str) (d : D)
  | tup (es : List E)
  | lst (es : List E)
  | new (es : List E)
  | dnew
  | dn1 (k v : E)
  | dnS (ks : List Str) (es : List E)
  | lnew (e : E)
  | catN (a b : E)
  | fre (e : E)
  | bin (op : BOp) (a b : E)
  | neg (a : E)
  | cmp (op : COp) (a b : E)
  | chain (o1 o2 : COp) (a b c : E)
  | and (a b : E)
  | or (a b : E)
  | not (a : E)
  | ife (c a b : E)
  | sub (a i : E)
  | slc (a : E) (lo hi : Option E)
  | slcN (a : E) (lo hi : Option E)
  | rev (a : E)
  | call (f : Nat) (es : List E)
  | pick (fs : List Nat) (i : E) (es : List E)
  | mk (c init : Nat) (fz : Option (List Str)) (es : List E)
  | meth (c m : Nat) (nm : Str) (o : E) (es : List E)
  | fld (c ix : Nat) (f : Str) (o : E)
  | prop (c m : Nat) (f : Str) (o : E)
  | oeq (c m : Nat) (a b : E)
  | b1 (b : B1) (a : E)
  | b2 (b : B2) (a c : E)
  | isi (a : E) (t : Ty)
  | mth (m : Mt) (o : E) (es : List E)
  | lc (own : List Nat) (e tg it : E) (cs : List E)
  | frz (i : Nat)
  | rng1 (a : E)
  | rng2 (a b : E)
  | rngD (a b : E)
  | enm (a : E)
  | zip (a b : E)
  | zipR (a b : E)
  | rvr (a : E)
  | lrg (a : E)
  | xfld (cs : List Nat) (ix : Nat) (f : Str) (o : E)
  | xisi (tbl : List (Nat × Bool)) (o : E)
  | olen (c m : Nat) (o : E)

inductive Sm where
  | asg (t e : E)
  | par (is : List Nat) (es : List E)
  | aug (i : Nat) (op : BOp) (e : E)
  | augS (o i : E) (op : BOp) (e : E)
  | exp (e : E)
  | ret (e : E)
  | retN
  | ite (c : E) (a b : List Sm)
  | whl (c : E) (b : List Sm)
  | for_ (t it : E) (b : List Sm)
  | brk | cnt | pass
  | rse (c : Nat) (es : List E)
  | nev
  | fz (i : Nat) (s : Sm)
  | try_ (b hs : List Sm)
  | hd (tbl : List (Nat × Bool)) (i : Option Nat) (b : List Sm)

/-! ### values -/
def ofO (S : Sto) (o : Option D) : Re Vl := match o with
  | some x => .ok (.d x) S
  | none => .er
def ofB (S : Sto) (o : Option Bool) : Re Vl := match o with
  | some x => .ok (.d (.bool x)) S
  | none => .er
def truthD : D → Option Bool
  | .none => some false
  | .bool b => some b
  | .int i => some (i != 0)
  | .str x => if x.length ≤ 100000 then some ((x.length : Int) != 0) else none
  | .list xs => some (!xs.isEmpty)
  | .tuple xs => some (!xs.isEmpty)
  | .dict _ => none
def truthV (S : Sto) : Vl → Option Bool
  | .d x => truthD x
  | .r n => (match S[n]? with
    | some (.lst ds) => some (!ds.isEmpty)
    | _ => none)
  | .s _ => none
  | .x _ _ => none
/-- the items of a list, of a list of the store -/
def asLst (S : Sto) : Vl → Option (List D)
  | .d (.list xs) => some xs
  | .r n => (match S[n]? with
    | some (.lst ds) => some ds
    | _ => none)
  | _ => none
def inLine (n : Nat) : Bool := Nat.ble n 100000
def mulOk (i j : Int) : Bool := Nat.blt i.natAbs 18446744073709551616 || Nat.blt j.natAbs 18446744073709551616
def repL (xs : List D) (k : Int) : List D := (List.replicate k.toNat xs).flatten
def addD (S : Sto) : Vl → Vl → Option D
  | .d (.int i), .d (.int j) => some (.int (i + j))
  | .d (.str x), .d (.str y) => if inLine (x.length + y.length) then some (.str (x ++ y)) else none
  | .d (.tuple xs), .d (.tuple ys) => if inLine (xs.length + ys.length) then some (.tuple (xs ++ ys)) else none
  | a, b => (match asLst S a, asLst S b with
    | some xs, some ys => if inLine (xs.length + ys.length) then some (.list (xs ++ ys)) else none
    | _, _ => none)
def minusD : Vl → Vl → Option D
  | .d (.int i), .d (.int j) => some (.int (i - j))
  | _, _ => none
def mulD : Vl → Vl → Option D
  | .d (.int i), .d (.int j) => if mulOk i j then some (.int (i * j)) else none
  | .d (.tuple xs), .d (.int k) => if decide (0 ≤ k ∧ k ≤ 1000) && Nat.ble xs.length 1000 then some (.tuple (repL xs k)) else none
  | .d (.list xs), .d (.int k) => if decide (0 ≤ k ∧ k ≤ 1000) && Nat.ble xs.length 1000 then some (.list (repL xs k)) else none
  | .d (.str x), .d (.int k) => if decide (0 ≤ k ∧ k ≤ 1000) && Nat.ble x.length 16 then some (.str (Txt.mul x k)) else none
  | _, _ => none
def divOk (j : Int) : Bool := decide (0 < j) && Nat.blt j.natAbs 1461501637330902918203684832716283019655932542976
theorem divOk_iff {j : Int} : divOk j = true ↔ 0 < j ∧ j < 1461501637330902918203684832716283019655932542976 := by
  unfold divOk
  rw [Bool.and_eq_true, decide_eq_true_iff, Nat.blt_eq]
  omega
def rngOk (i j : Int) : Bool := Nat.ble i.natAbs 1000000 && Nat.ble j.natAbs 1000000
theorem rngOk_iff {i j : Int} : rngOk i j = true ↔ -1000000 ≤ i ∧ i ≤ 1000000 ∧ -1000000 ≤ j ∧ j ≤ 1000000 := by
  unfold rngOk
  rw [Bool.and_eq_true, Nat.ble_eq, Nat.ble_eq]
  omega
def fdivD : Vl → Vl → Option D
  | .d (.int i), .d (.int j) => if divOk j then some (.int (i / j)) else none
  | _, _ => none
def modD : Vl → Vl → Option D
  | .d (.int i), .d (.int j) => if decide (0 < j) then some (.int (i % j)) else none
  | _, _ => none
def powD : Vl → Vl → Option D
  | .d (.int i), .d (.int j) => if decide (0 ≤ j ∧ j ≤ 1000) && Nat.ble i.natAbs 1000000 then some (.int (i ^ j.toNat)) else none
  | _, _ => none
def binD (S : Sto) : BOp → Vl → Vl → Option D
  | .add => addD S
  | .sub => minusD
  | .mul => mulD
  | .fdiv => fdivD
  | .mod => modD
  | .pow => powD
/-- t < u of tuples of ints -/
def ltInts : List D → List D → Option Bool
  | [], [] => some false
  | [], .int _ :: _ => some true
  | .int _ :: _, [] => some false
  | .int x :: xs, .int y :: ys => if x = y then ltInts xs ys else some (decide (x < y))
  | _, _ => none
def allInts : List D → Bool
  | [] => true
  | .int _ :: r => allInts r
  | _ => false
def intsOf : List D → List Int
  | .int i :: r => i :: intsOf r
  | _ => []
def okKey : D → Bool
  | .int _ => true
  | .str _ => true
  | .tuple xs => okKeys xs
  | _ => false
where okKeys : List D → Bool
  | [] => true
  | x :: r => okKey x && okKeys r
/-- a key of a dict: a number, a text, a tuple of such, of tuples of such -/
def okK1 : D → Bool
  | .int _ => true
  | .str _ => true
  | _ => false
def okK2 : D → Bool
  | .tuple xs => xs.all okK1
  | x => okK1 x
def okK : D → Bool
  | .tuple xs => xs.all okK2
  | x => okK1 x
def isTup : D → Bool
  | .tuple _ => true
  | _ => false
def dKey (kvs : List (D × D)) (k : D) : Bool := okK k && kvs.all fun q => isTup q.1 == isTup k
def noIns : List (D × D) → Bool
  | (.none, _) :: _ => false
  | _ => true
def lookD (kvs : List (D × D)) (k : D) : Option D := (kvs.find? fun q => PyData.eqv q.1 k).map (·.2)
def putD (kvs : List (D × D)) (k v : D) : List (D × D) := if kvs.any (fun q => PyData.eqv q.1 k) then kvs.map (fun q => if PyData.eqv q.1 k then (q.1, v) else q) else kvs ++ [(k, v)]
def dicOf (S : Sto) : Vl → Option (List (D × D))
  | .d (.dict kvs) => if noIns kvs then some kvs else none
  | .r n => (match S[n]? with
    | some (.dic kvs) => some kvs
    | _ => none)
  | _ => none
def inDic (S : Sto) (x : D) (v : Vl) : Option Bool := match dicOf S v with
  | some kvs => if dKey kvs x then some (lookD kvs x).isSome else none
  | none => none
def inSeq (x : D) (ys : List D) : Option Bool := if SeqAt.shaped x && SeqAt.shaped (.list ys) then some (ys.any fun z => PyData.eqv z x) else none
def isIn (S : Sto) : Vl → Vl → Option Bool
  | .d x, .d (.tuple ys) => inSeq x ys
  | .d x, v => (match asLst S v with
    | some ys => inSeq x ys
    | none => inDic S x v)
  | _, _ => none
def eqVl (S : Sto) : Vl → Vl → Option Bool
  | .d x, .d y => if SeqAt.shaped x && SeqAt.shaped y then some (PyData.eqv x y) else none
  | _, _ => none
def ltVl : Vl → Vl → Option Bool
  | .d (.int i), .d (.int j) => some (decide (i < j))
  | .d (.tuple xs), .d (.tuple ys) => if allInts xs && allInts ys then some (HT.lexLt (intsOf xs) (intsOf ys)) else none
  | _, _ => none
def isNone : Vl → Bool
  | .d .none => true
  | _ => false
def cmpD (S : Sto) : COp → Vl → Vl → Option Bool
  | .eq, a, b => eqVl S a b
  | .ne, a, b => (eqVl S a b).map not
  | .lt, a, b => ltVl a b
  | .gt, a, b => ltVl b a
  | .le, a, b => (ltVl b a).map not
  | .ge, a, b => (ltVl a b).map not
  | .isN, a, b => if isNone b then some (isNone a) else none
  | .notN, a, b => if isNone b then some (!isNone a) else none
  | .isIn, a, b => isIn S a b
  | .notIn, a, b => (isIn S a b).map not
def atK (xs : List D) : D → Option D
  | .int i => atI xs i
  | _ => none
def getDic (S : Sto) (k : D) (v : Vl) : Option D := match dicOf S v with
  | some kvs => if dKey kvs k then lookD kvs k else none
  | none => none
def subD (S : Sto) : Vl → Vl → Option D
  | .d (.tuple xs), .d (.int i) => atI xs i
  | .d (.str x), .d (.int i) => if inLine x.length then (atI x.cps.toList i).map fun c => .str ⟨#[c]⟩ else none
  | a, .d k => (match asLst S a with
    | some xs => atK xs k
    | none => getDic S k a)
  | _, _ => none
def cutL {α : Type} (xs : List α) (lo hi : Option Int) : List α := (xs.drop (HT.sIx xs.length 0 lo)).take (HT.sIx xs.length xs.length hi - HT.sIx xs.length 0 lo)
def slcD (S : Sto) (lo hi : Option Int) : Vl → Option D
  | .d (.tuple xs) => some (.tuple (cutL xs lo hi))
  | .d (.str x) => if inLine x.length then some (.str ⟨(cutL x.cps.toList lo hi).toArray⟩) else none
  | v => (asLst S v).map fun xs => .list (cutL xs lo hi)
def revD : Vl → Option D
  | .d (.tuple xs) => some (.tuple xs.reverse)
  | .d (.list xs) => some (.list xs.reverse)
  | _ => none

/-! ### order, sorting -/
abbrev ltD (x y : D) : Bool := PySem.W.dataLt x y
def insD (x : D) : List D → List D
  | [] => [x]
  | y :: r => if ltD x y then x :: y :: r else y :: insD x r
def sortD (xs : List D) : List D := xs.foldl (fun acc x => insD x acc) []
/-- no other kinds than: int, text, tuples and lists of such -/
def plainD : D → Bool
  | .int _ => true
  | .str x => SeqAt.shaped (.str x)
  | .tuple xs => plainDs xs
  | .list xs => plainDs xs
  | _ => false
where plainDs : List D → Bool
  | [] => true
  | x :: r => plainD x && plainDs r
def homog (xs : List D) : Bool := xs.all fun x => SeqAt.shaped x && plainD x && xs.all fun y => PySem.W.alike x y
def dedup : List D → List D
  | [] => []
  | x :: r => if r.any (fun y => PyData.eqv y x) then dedup r else x :: dedup r
def minD : D → List D → D
  | m, [] => m
  | m, x :: r => minD (if ltD x m then x else m) r
def maxD : D → List D → D
  | m, [] => m
  | m, x :: r => maxD (if ltD m x then x else m) r
def seqOf (S : Sto) : Vl → Option (List D)
  | .d (.tuple xs) => some xs
  | v => asLst S v
def sumI : List D → Int
  | .int i :: r => i + sumI r
  | _ => 0
def lenD (S : Sto) : Vl → Option D
  | .d (.str x) => if inLine x.length then some (.int x.length) else none
  | v => (match seqOf S v with
    | some xs => some (.int xs.length)
    | none => (dicOf S v).map fun kvs => .int kvs.length)
def keysD (S : Sto) (v : Vl) : Option (List D) := match seqOf S v with
  | some xs => some xs
  | none => (dicOf S v).map fun kvs => kvs.map (·.1)
def sortedD (S : Sto) (v : Vl) : Option D := match asLst S v with
  | some xs => if homog xs then some (.list (sortD xs)) else none
  | none => none
/-- ascending, each once -/
def insU (x : Int) : List Int → List Int
  | [] => [x]
  | y :: r => if x < y then x :: y :: r else if x = y then y :: r else y :: insU x r
def srtU : List Int → List Int
  | [] => []
  | x :: r => insU x (srtU r)
theorem insU_mem {x y : Int} : ∀ {l : List Int}, y ∈ insU x l ↔ y = x ∨ y ∈ l
  | [] => by simp [insU]
  | z :: r => by
    unfold insU
    split
    · simp
    · split
      · rename_i e; subst e; simp
      · rw [List.mem_cons, insU_mem, List.mem_cons]
        constructor
        · rintro (a | a | a) <;> simp [a]
        · rintro (a | a | a) <;> simp [a]
theorem insU_asc {x : Int} : ∀ {l : List Int}, l.Pairwise (· < ·) → (insU x l).Pairwise (· < ·)
  | [], _ => by simp [insU]
  | z :: r, h => by
    rw [List.pairwise_cons] at h
    unfold insU
    split
    · rename_i hz
      rw [List.pairwise_cons, List.pairwise_cons]
      refine ⟨fun y hy => ?_, h⟩
      rcases List.mem_cons.mp hy with rfl | hy
      · exact hz
      · exact Int.lt_trans hz (h.1 y hy)
    · split
      · rw [List.pairwise_cons]; exact h
      · rw [List.pairwise_cons]
        refine ⟨fun y hy => ?_, insU_asc h.2⟩
        rcases insU_mem.mp hy with rfl | hy
        · omega
        · exact h.1 y hy
theorem srtU_mem {y : Int} : ∀ {l : List Int}, y ∈ srtU l ↔ y ∈ l
  | [] => by simp [srtU]
  | x :: r => by unfold srtU; rw [insU_mem, srtU_mem, List.mem_cons]
theorem srtU_asc : ∀ l : List Int, (srtU l).Pairwise (· < ·)
  | [] => List.Pairwise.nil
  | x :: r => by unfold srtU; exact insU_asc (srtU_asc r)
/-- two ascending lists with the same members -/
theorem asc_unique : ∀ {a b : List Int}, a.Pairwise (· < ·) → b.Pairwise (· < ·) → (∀ k, k ∈ a ↔ k ∈ b) → a = b
  | [], [], _, _, _ => rfl
  | [], y :: b, _, _, h => by have := (h y).mpr List.mem_cons_self; cases this
  | x :: a, [], _, _, h => by have := (h x).mp List.mem_cons_self; cases this
  | x :: a, y :: b, ha, hb, h => by
    rw [List.pairwise_cons] at ha hb
    have e : x = y := by
      rcases List.mem_cons.mp ((h x).mp List.mem_cons_self) with e | m
      · exact e
      · rcases List.mem_cons.mp ((h y).mpr List.mem_cons_self) with e | m2
        · exact e.symm
        · have h1 := hb.1 x m
          have h2 := ha.1 y m2
          omega
    subst e
    have : a = b := asc_unique ha.2 hb.2 fun k => by
      constructor
      · intro hk
        rcases List.mem_cons.mp ((h k).mp (List.mem_cons_of_mem _ hk)) with e | m
        · have := ha.1 k hk; omega
        · exact m
      · intro hk
        rcases List.mem_cons.mp ((h k).mpr (List.mem_cons_of_mem _ hk)) with e | m
        · have := hb.1 k hk; omega
        · exact m
    rw [this]
def sortSetD : Vl → Option D
  | .d (.tuple xs) => if allInts xs && Nat.blt xs.length 64 then some (.list ((srtU (intsOf xs)).map .int)) else none
  | _ => none
def lenSetD (S : Sto) (v : Vl) : Option D := match asLst S v with
  | some xs => if xs.all okKey then some (.int (dedup xs).length) else none
  | none => none
def mnD (S : Sto) (v : Vl) : Option D := match asLst S v with
  | some (x :: r) => if homog (x :: r) then some (minD x r) else none
  | _ => none
def mxD (S : Sto) (v : Vl) : Option D := match asLst S v with
  | some (x :: r) => if homog (x :: r) then some (maxD x r) else none
  | _ => none
def sumD (S : Sto) (v : Vl) : Option D := match seqOf S v with
  | some xs => if allInts xs then some (.int (sumI xs)) else none
  | none => none
def intD : Vl → Option D
  | .d (.int i) => some (.int i)
  | .d (.bool b) => some (.int (if b then 1 else 0))
  | _ => none
def b1D (S : Sto) : B1 → Vl → Option D
  | .len, v => lenD S v
  | .tuple, v => (seqOf S v).map .tuple
  | .list, v => (keysD S v).map .list
  | .sorted, v => sortedD S v
  | .sortedSet, v => sortSetD v
  | .lenSet, v => lenSetD S v
  | .min, v => mnD S v
  | .max, v => mxD S v
  | .sum, v => sumD S v
  | .int, v => intD v
def b2D : B2 → Vl → Vl → Option D
  | .max, .d (.int i), .d (.int j) => some (.int (if j > i then j else i))
  | .min, .d (.int i), .d (.int j) => some (.int (if j < i then j else i))
  | _, _, _ => none
def tyB : Ty → D → Option Bool
  | _, .dict _ => none
  | .int, .int _ => some true
  | .int, .bool _ => some true
  | .int, _ => some false
  | .bool, .bool _ => some true
  | .bool, _ => some false
  | .str, .str _ => some true
  | .str, _ => some false
  | .tuple, .tuple _ => some true
  | .tuple, _ => some false
  | .list, .list _ => some true
  | .list, _ => some false
  | .cls _, _ => some false
def tyC (c' : Int) : Ty → Option Bool
  | .cls c => if decide (c' = (c : Int)) then some true else none
  | _ => none
def isiD (t : Ty) : Vl → Option Bool
  | .d (.dict ((.none, .int c') :: _)) => tyC c' t
  | .d x => tyB t x
  | _ => none
/-- a built-in method that changes its list: the value, the list behind it -/
def appD (ds : List D) : List Vl → Option (D × List D)
  | [.d x] => if inLine (ds.length + 1) then some (.none, ds ++ [x]) else none
  | _ => none
def extD (ds : List D) : List Vl → Option (D × List D)
  | [.d (.list xs)] => if inLine (ds.length + xs.length) then some (.none, ds ++ xs) else none
  | _ => none
def popD (ds : List D) : List Vl → Option (D × List D)
  | [] => (match ds[ds.length - 1]? with
    | some y => some (y, ds.dropLast)
    | none => none)
  | _ => none
def popAtD (ds : List D) : List Vl → Option (D × List D)
  | [.d (.int i)] => if decide (0 ≤ i ∧ i < ds.length) then (match ds[i.toNat]? with
      | some y => some (y, ds.eraseIdx i.toNat)
      | none => none) else none
  | _ => none
def revLD (ds : List D) : List Vl → Option (D × List D)
  | [] => some (.none, ds.reverse)
  | _ => none
def mutD : Mt → List D → List Vl → Option (D × List D)
  | .append => appD
  | .extend => extD
  | .pop => popD
  | .popAt => popAtD
  | .reverse => revLD
  | _ => fun _ _ => none
def cntT (v : Vl) : List Vl → Option D
  | [.d (.int k)] => (match v with
    | .d (.tuple xs) => if allInts xs then some (.int ((intsOf xs).count k)) else none
    | _ => none)
  | _ => none
def cntL (S : Sto) (v : Vl) : List Vl → Option D
  | [.d (.int k)] => (match asLst S v with
    | some xs => if allInts xs then some (.int ((intsOf xs).count k)) else none
    | none => none)
  | _ => none
def idxD (S : Sto) (v : Vl) : List Vl → Option D
  | [.d x] => (match asLst S v with
    | some xs => if SeqAt.shaped x && SeqAt.shaped (.list xs) then (match xs.findIdx? (fun z => PyData.eqv z x) with
      | some j => some (.int j)
      | none => none) else none
    | none => none)
  | _ => none
def getOrD (S : Sto) (v : Vl) : List Vl → Option D
  | [.d k, .d z] => (match dicOf S v with
    | some kvs => if dKey kvs k then some ((lookD kvs k).getD z) else none
    | none => none)
  | _ => none
def idxT (v : Vl) : List Vl → Option D
  | [.d (.int k)] => (match v with
    | .d (.tuple xs) => if allInts xs then (match (intsOf xs).findIdx? (fun z => z == k) with
      | some j => some (.int j)
      | none => none) else none
    | _ => none)
  | _ => none
def findD (v : Vl) : List Vl → Option D
  | [.d (.str y)] => (match v with
    | .d (.str x) => some (.int (Txt.find x y))
    | _ => none)
  | _ => none
def allStrs : List D → Bool
  | [] => true
  | .str _ :: r => allStrs r
  | _ => false
def strsOf : List D → List Str
  | .str x :: r => x :: strsOf r
  | _ => []
def joinD (S : Sto) (v : Vl) : List Vl → Option D
  | [w] => (match v, asLst S w with
    | .d (.str x), some xs => if allStrs xs && Nat.ble (((strsOf xs).map (·.length)).sum + (strsOf xs).length * x.length) 100000 then some (.str (Txt.join x (strsOf xs))) else none
    | _, _ => none)
  | _ => none
/-- one that changes nothing -/
def askD (S : Sto) : Mt → Vl → List Vl → Option D
  | .countT, v, vs => cntT v vs
  | .countL, v, vs => cntL S v vs
  | .index, v, vs => idxD S v vs
  | .get, v, vs => getOrD S v vs
  | .indexT, v, vs => idxT v vs
  | .find, v, vs => findD v vs
  | .join, v, vs => joinD S v vs
  | _, _, _ => none
def Mt.mut : Mt → Bool
  | .append | .extend | .pop | .popAt | .reverse => true
  | _ => false
/-- the receiver is of the method's type -/
def recvOk (S : Sto) : Mt → Vl → Bool
  | .countT, .d (.tuple _) => true
  | .countT, _ => false
  | .indexT, .d (.tuple _) => true
  | .indexT, _ => false
  | .join, .d (.str _) => true
  | .join, _ => false
  | .find, .d (.str _) => true
  | .find, _ => false
  | .get, v => (dicOf S v).isSome
  | _, v => (asLst S v).isSome
def mthD (S : Sto) (m : Mt) (o : Vl) (vs : List Vl) : Re Vl := if m.mut then (match o with
  | .r n => (match S[n]? with
    | some (.lst ds) => (match mutD m ds vs with
      | some (y, ds') => .ok (.d y) (S.set n (.lst ds'))
      | none => .er)
    | _ => .er)
  | _ => .er) else ofO S (askD S m o vs)
/-- what a loop walks -/
def itemsD : Vl → Option (List D)
  | .d (.list xs) => some xs
  | .d (.tuple xs) => some xs
  | .d (.str x) => if inLine x.length then some (x.cps.toList.map fun c => .str ⟨#[c]⟩) else none
  | .d (.dict kvs) => if noIns kvs then some (kvs.map (·.1)) else none
  | _ => none
/-- the same without dicts -/
def itemsS : Vl → Option (List D)
  | .d (.list xs) => some xs
  | .d (.tuple xs) => some xs
  | .d (.str x) => if inLine x.length then some (x.cps.toList.map fun c => .str ⟨#[c]⟩) else none
  | _ => none
def rangeD (i j : Int) : List D := (List.range (j - i).toNat).map fun (k : Nat) => .int (i + (k : Int))
def enumD (xs : List D) : List D := (xs.zipIdx 0).map fun q => .tuple [.int (q.2 : Int), q.1]
def zipD (xs ys : List D) : List D := (xs.zip ys).map fun q => .tuple [q.1, q.2]
/-- zip of two lists, the second turned round or not -/
def zipI (b : Bool) (x y : Vl) (S : Sto) : Re (List D) := match x, y with
  | .d (.list xs), .d (.list ys) => .ok (zipD xs (if b then ys.reverse else ys)) S
  | _, _ => .er

/-! ### the interpreter -/
def wipeE (env : Ev) : List Nat → Ev
  | [] => env
  | v :: vs => (wipeE env vs).set v none
/-- the loop of a comprehension; its list is the object n of the store -/
def lcPut (n : Nat) (y : D) (S : Sto) : Option Sto := match S[n]? with
  | some (.lst ds) => if inLine (ds.length + 1) then some (S.set n (.lst (ds ++ [y]))) else none
  | _ => none
def lcEnd (n : Nat) (S : Sto) : Re Vl := match S[n]? with
  | some (.lst ds) => .ok (.d (.list ds)) (S.take n)
  | _ => .er
def lcLoop (step : D → Sto → Re (Option D)) (n : Nat) : List D → Sto → Re Vl
  | [], S => lcEnd n S
  | x :: r, S => (match step x S with
    | .ok (some y) S1 => (match lcPut n y S1 with
      | some S2 => lcLoop step n r S2
      | none => .er)
    | .ok none S1 => lcLoop step n r S1
    | _ => .er)
def putFD (f : Str) (v : D) : List (Str × D) → List (Str × D)
  | [] => [(f, v)]
  | (g, x) :: r => if g = f then (g, v) :: r else (g, x) :: putFD f v r
abbrev CallF := Nat → List Vl → Sto → Re Vl
def insOf (S : Sto) (c : Nat) : Vl → Bool
  | .d (.dict ((.none, .int c') :: _)) => decide (c' = (c : Int))
  | .r n => (match S[n]? with
    | some (.ins c' _) => decide (c' = c)
    | _ => false)
  | _ => false
/-- an instance of the class c, no field of which hides a method -/
def methOk (S : Sto) (c : Nat) (nm : Str) : Vl → Bool
  | .d (.dict ((.none, .int c') :: _)) => decide (c' = (c : Int))
  | .r n => (match S[n]? with
    | some (.ins c' fs) => decide (c' = c) && fs.all fun q => decide (q.1 ≠ nm)
    | _ => false)
  | _ => false
def fldD (S : Sto) (c ix : Nat) (f : Str) : Vl → Option D
  | .d (.dict ((.none, .int c') :: r)) => if decide (c' = (c : Int)) then (r[ix]?).map (·.2) else none
  | .r n => (match S[n]? with
    | some (.ins c' fs) => if decide (c' = c) then fs.lookup f else none
    | _ => none)
  | _ => none
def noEx : Re Vl → Re Vl
  | .ok v S => .ok v S
  | _ => .er
/-- a truth value -/
def boolEx : Re Vl → Re Vl
  | .ok (.d (.bool b)) S => .ok (.d (.bool b)) S
  | _ => .er
/-- a length -/
def lenEx : Re Vl → Re Vl
  | .ok (.d (.int i)) S => if decide (0 ≤ i) && Nat.ble i.natAbs 1000000 then .ok (.d (.int i)) S else .er
  | _ => .er
/-- a field of a caught exception -/
def xfldD (cs : List Nat) (ix : Nat) : Vl → Option D
  | .x c fs => if cs.contains c then fs[ix]? else none
  | _ => none
def xisiD (tbl : List (Nat × Bool)) : Vl → Option Bool
  | .x c _ => tbl.lookup c
  | _ => none
/-- behind __init__ -/
def made (c n : Nat) (fz : Option (List Str)) : Re Vl → Re Vl
  | .ok (.d .none) S => (match fz, S[n]? with
    | none, some (.ins _ _) => .ok (.r n) (S.take (n + 1))
    | some ns, some (.ins c' fs) => if decide (c' = c) && decide (fs.map (·.1) = ns) then .ok (.d (mkIns c (fs.map (·.2)))) (S.take n) else .er
    | _, _ => .er)
  | .ex c fs S => .ex c fs (S.take n)
  | _ => .er
def pairUp : List Vl → List Vl → Option (List (D × D))
  | [], [] => some []
  | .d k :: ks, .d v :: vs => (pairUp ks vs).map ((k, v) :: ·)
  | _, _ => none
def allDat : List Vl → Option (List D)
  | [] => some []
  | .d x :: r => (allDat r).map (x :: ·)
  | _ => none
def mergeD (kvs : List (D × D)) : List (D × D) → List (D × D)
  | [] => kvs
  | (k, v) :: r => mergeD (putD kvs k v) r

/-- what a piece of syntax means: its value, its truth, what a loop over it walks, a store to it -/
structure Md where
  v : Ev → Sto → Re Vl
  t : Ev → Sto → Re Bool
  i : Ev → Sto → Re (List D)
  a : Vl → Ev → Sto → Re Ev
def valM (v : Ev → Sto → Re Vl) : Md where
  v := v
  t := fun env S => (v env S).bind fun x S => (match truthV S x with
    | some k => .ok k S
    | none => .er)
  i := fun env S => (v env S).bind fun x S => (match itemsD x with
    | some xs => .ok xs S
    | none => .er)
  a := fun _ _ _ => .er
def itM (i : Ev → Sto → Re (List D)) : Md where
  v := fun _ _ => .er
  t := fun _ _ => .er
  i := i
  a := fun _ _ _ => .er
def lcStep (tg : Md) (own : List Nat) (cs : Ev → Sto → Re Bool) (e : Md) (env : Ev) (x : D) (S : Sto) : Re (Option D) := match tg.a (.d x) (wipeE env own) S with
  | .ok env1 S1 => (match cs env1 S1 with
    | .ok true S2 => (match e.v env1 S2 with
      | .ok (.d y) S3 => .ok (some y) S3
      | _ => .er)
    | .ok false S2 => .ok none S2
    | _ => .er)
  | _ => .er
def rngI (x y : Vl) (S : Sto) : Re (List D) := match x, y with
  | .d (.int i), .d (.int j) => if rngOk i j then .ok (rangeD i j) S else .er
  | _, _ => .er
/-- range(i, j, -1) -/
def rngDn (x y : Vl) (S : Sto) : Re (List D) := match x, y with
  | .d (.int i), .d (.int j) => if rngOk i j then .ok (rangeD (j + 1) (i + 1)).reverse S else .er
  | _, _ => .er
def enmI (x : Vl) (S : Sto) : Re (List D) := match itemsS x with
  | some xs => .ok (enumD xs) S
  | none => .er
def isTupV : Vl → Bool
  | .d (.tuple _) => true
  | _ => false
def setSub (x y v : Vl) (env : Ev) (S : Sto) : Re Ev := match x, y, v with
  | .r n, .d k, .d z => (match S[n]?, k with
    | some (.lst ds), .int j => if decide (0 ≤ j ∧ j < ds.length) then .ok env (S.set n (.lst (ds.set j.toNat z))) else .er
    | some (.dic kvs), k => if dKey kvs k && inLine (kvs.length + 1) then .ok env (S.set n (.dic (putD kvs k z))) else .er
    | _, _ => .er)
  | _, _, _ => .er
def setFld (c : Nat) (f : Str) (x v : Vl) (env : Ev) (S : Sto) : Re Ev := match x, v with
  | .r n, .d z => (match S[n]? with
    | some (.ins c' fs) => if decide (c' = c) && Nat.ble fs.length 100 then .ok env (S.set n (.ins c' (putFD f z fs))) else .er
    | _ => .er)
  | _, _ => .er
def vals : List Md → Ev → Sto → Re (List Vl)
  | [], _, S => .ok [] S
  | e :: es, env, S => (e.v env S).bind fun x S => (vals es env S).bind fun xs S => .ok (x :: xs) S
def tests : List Md → Ev → Sto → Re Bool
  | [], _, S => .ok true S
  | [c], env, S => c.t env S
  | _, _, _ => .er
def asgs : List Md → List D → Ev → Sto → Re Ev
  | [], [], env, S => .ok env S
  | t :: ts, d :: ds, env, S => (t.a (.d d) env S).bind fun env S => asgs ts ds env S
  | _, _, _, _ => .er
def tupT (ts : List Md) (n : Nat) (v : Vl) (env : Ev) (S : Sto) : Re Ev := match v with
  | .d (.tuple ds) => if Nat.beq ds.length n then asgs ts ds env S else .er
  | .d (.list ds) => if Nat.beq ds.length n then asgs ts ds env S else .er
  | _ => .er
def part : Option Md → Ev → Sto → Re (Option Int)
  | none, _, S => .ok none S
  | some e, env, S => (e.v env S).bind fun x S => (match x with
    | .d (.int i) => .ok (some i) S
    | _ => .er)
/-- the one pair of a new dict -/
def put1 (n : Nat) (x y : Vl) (S : Sto) : Re Vl := match x, y, S[n]? with
  | .d k, .d v, some (.dic []) => if okK k && isTup k then .ok (.r n) (S.set n (.dic [(k, v)])) else .er
  | _, _, _ => .er
/-- the pairs of a new dict, its keys texts -/
def putS (n : Nat) (ks : List Str) (vs : List Vl) (S : Sto) : Re Vl := match allDat vs, S[n]? with
  | some ds, some .dk0 => if Nat.beq ds.length ks.length && (Nat.ble ks.length 15 && (Nat.blt 0 ks.length && decide ks.Nodup)) then .ok (.r n) (S.set n (.dic ((ks.map PyData.str).zip ds))) else .er
  | _, _ => .er
/-- a new list that will change -/
def lnewV (x : Vl) (S : Sto) : Re Vl := match seqOf S x with
  | some ds => .ok (.r S.length) (S ++ [.lst ds])
  | none => .er
/-- a part of a list that will change -/
def slcV (lo hi : Option Int) (x : Vl) (S : Sto) : Re Vl := match asLst S x with
  | some xs => .ok (.r S.length) (S ++ [.lst (cutL xs lo hi)])
  | none => .er
/-- two lists, put together to a new one that will change -/
def catV (x y : Vl) (S : Sto) : Re Vl := match asLst S x, asLst S y with
  | some xs, some ys => if inLine (xs.length + ys.length) then .ok (.r S.length) (S ++ [.lst (xs ++ ys)]) else .er
  | _, _ => .er
/-- an object of the store that changes no more -/
def freV (x : Vl) (S : Sto) : Re Vl := match x with
  | .r n => (match S[n]? with
    | some (.lst ds) => .ok (.d (.list ds)) (S.set n .dead)
    | some (.dic kvs) => .ok (.d (.dict kvs)) (S.set n .dead)
    | _ => .er)
  | _ => .er
mutual
def sem (C : CallF) : E → Md
  | .var i => { valM (fun env S => match env[i]? with
      | some (some v) => .ok v S
      | _ => .er) with a := fun v env S => .ok (env.set i (some v)) S }
  | .con d => valM fun _ S => .ok (.d d) S
  | .glb _ d => valM fun _ S => .ok (.d d) S
  | .tup es => { valM (fun env S => (vals (sems C es) env S).bind fun vs S => match allDat vs with
      | some ds => if inLine ds.length then .ok (.d (.tuple ds)) S else .er
      | none => .er) with a := fun v env S => tupT (sems C es) es.length v env S }
  | .lst es => valM fun env S => (vals (sems C es) env S).bind fun vs S => match allDat vs with
      | some ds => if inLine ds.length then .ok (.d (.list ds)) S else .er
      | none => .er
  | .new es => valM fun env S => (vals (sems C es) env S).bind fun vs S => match allDat vs with
      | some ds => if inLine ds.length then .ok (.r S.length) (S ++ [.lst ds]) else .er
      | none => .er
  | .dnew => valM fun _ S => .ok (.r S.length) (S ++ [.dic []])
  | .dn1 k v => valM fun env S => ((sem C k).v env (S ++ [.dic []])).bind fun x S1 => ((sem C v).v env S1).bind fun y S2 => put1 S.length x y S2
  | .dnS ks es => valM fun env S => (vals (sems C es) env (S ++ [.dk0])).bind fun vs S1 => putS S.length ks vs S1
  | .lnew e => valM fun env S => ((sem C e).v env S).bind fun x S => lnewV x S
  | .catN a b => valM fun env S => ((sem C a).v env S).bind fun x S => ((sem C b).v env S).bind fun y S => catV x y S
  | .fre e => valM fun env S => ((sem C e).v env S).bind fun x S => freV x S
  | .bin op a b => valM fun env S => ((sem C a).v env S).bind fun x S => ((sem C b).v env S).bind fun y S => ofO S (binD S op x y)
  | .neg a => valM fun env S => ((sem C a).v env S).bind fun x S => match x with
      | .d (.int i) => .ok (.d (.int (-i))) S
      | _ => .er
  | .cmp op a b => valM fun env S => ((sem C a).v env S).bind fun x S => ((sem C b).v env S).bind fun y S => ofB S (cmpD S op x y)
  | .chain o1 o2 a b c => valM fun env S => ((sem C a).v env S).bind fun x S => ((sem C b).v env S).bind fun y S => match cmpD S o1 x y with
      | some true => ((sem C c).v env S).bind fun z S => ofB S (cmpD S o2 y z)
      | some false => .ok (.d (.bool false)) S
      | none => .er
  | .and a b => { valM (fun env S => ((sem C a).v env S).bind fun x S => match x with
      | .d (.bool true) => (sem C b).v env S
      | .d (.bool false) => .ok (.d (.bool false)) S
      | _ => .er) with t := fun env S => ((sem C a).t env S).bind fun k S => if k then (sem C b).t env S else .ok false S }
  | .or a b => { valM (fun env S => ((sem C a).v env S).bind fun x S => match x with
      | .d (.bool false) => (sem C b).v env S
      | .d (.bool true) => .ok (.d (.bool true)) S
      | _ => .er) with t := fun env S => ((sem C a).t env S).bind fun k S => if k then .ok true S else (sem C b).t env S }
  | .not a => { valM (fun env S => ((sem C a).v env S).bind fun x S => match x with
      | .d (.bool k) => .ok (.d (.bool (!k))) S
      | _ => .er) with t := fun env S => ((sem C a).t env S).bind fun k S => .ok (!k) S }
  | .ife c a b => valM fun env S => ((sem C c).t env S).bind fun k S => if k then (sem C a).v env S else (sem C b).v env S
  | .sub a i => { valM (fun env S => ((sem C a).v env S).bind fun x S => ((sem C i).v env S).bind fun y S => ofO S (subD S x y)) with
      a := fun v env S => ((sem C a).v env S).bind fun x S => ((sem C i).v env S).bind fun y S => setSub x y v env S }
  | .slc a lo hi => valM fun env S => ((sem C a).v env S).bind fun x S => (part (semO C lo) env S).bind fun l S => (part (semO C hi) env S).bind fun h S => ofO S (slcD S l h x)
  | .slcN a lo hi => valM fun env S => ((sem C a).v env S).bind fun x S => (part (semO C lo) env S).bind fun l S => (part (semO C hi) env S).bind fun h S => slcV l h x S
  | .rev a => valM fun env S => ((sem C a).v env S).bind fun x S => ofO S (revD x)
  | .call f es => valM fun env S => (vals (sems C es) env S).bind fun vs S => C f vs S
  | .pick fs i es => valM fun env S => ((sem C i).v env S).bind fun x S => match x with
      | .d (.int k) => (match atI fs k with
        | some f => (vals (sems C es) env S).bind fun vs S => C f vs S
        | none => .er)
      | _ => .er
  | .mk c init fz es => valM fun env S => (vals (sems C es) env S).bind fun vs S => made c S.length fz (C init (.r S.length :: vs) (S ++ [.ins c []]))
  | .meth c m nm o es => valM fun env S => ((sem C o).v env S).bind fun x S => if methOk S c nm x then (vals (sems C es) env S).bind fun vs S => C m (x :: vs) S else .er
  | .prop c m _ o => valM fun env S => ((sem C o).v env S).bind fun x S => if insOf S c x then noEx (C m [x] S) else .er
  | .fld c ix f o => { valM (fun env S => ((sem C o).v env S).bind fun x S => ofO S (fldD S c ix f x)) with
      a := fun v env S => ((sem C o).v env S).bind fun x S => setFld c f x v env S }
  | .oeq c m a b => valM fun env S => ((sem C a).v env S).bind fun x S => ((sem C b).v env S).bind fun y S => if insOf S c x && (insOf S c y || isTupV y) then boolEx (C m [x, y] S) else .er
  | .b1 b a => valM fun env S => ((sem C a).v env S).bind fun x S => ofO S (b1D S b x)
  | .b2 b a c => valM fun env S => ((sem C a).v env S).bind fun x S => ((sem C c).v env S).bind fun y S => ofO S (b2D b x y)
  | .isi a t => valM fun env S => ((sem C a).v env S).bind fun x S => ofB S (isiD t x)
  | .mth m o es => valM fun env S => ((sem C o).v env S).bind fun x S => if recvOk S m x then (vals (sems C es) env S).bind fun vs S => mthD S m x vs else .er
  | .lc own e tg it cs => valM fun env S => ((sem C it).i env S).bind fun xs S => lcLoop (lcStep (sem C tg) own (tests (sems C cs)) (sem C e) env) S.length xs (S ++ [.lst []])
  | .frz i => valM fun env S => match env[i]? with
      | some (some (.r n)) => (match S[n]? with
        | some (.lst ds) => .ok (.d (.list ds)) (S.set n .dead)
        | some (.dic kvs) => .ok (.d (.dict kvs)) (S.set n .dead)
        | _ => .er)
      | _ => .er
  | .rng1 a => itM fun env S => ((sem C a).v env S).bind fun x S => rngI (.d (.int 0)) x S
  | .rng2 a b => itM fun env S => ((sem C a).v env S).bind fun x S => ((sem C b).v env S).bind fun y S => rngI x y S
  | .rngD a b => itM fun env S => ((sem C a).v env S).bind fun x S => ((sem C b).v env S).bind fun y S => rngDn x y S
  | .enm a => itM fun env S => ((sem C a).v env S).bind fun x S => enmI x S
  | .zip a b => itM fun env S => ((sem C a).v env S).bind fun x S => ((sem C b).v env S).bind fun y S => zipI false x y S
  | .zipR a b => itM fun env S => ((sem C a).v env S).bind fun x S => ((sem C b).v env S).bind fun y S => zipI true x y S
  | .rvr a => itM fun env S => ((sem C a).i env S).bind fun xs S => .ok xs.reverse S
  | .lrg a => valM fun env S => ((sem C a).i env S).bind fun xs S => if inLine xs.length then .ok (.d (.list xs)) S else .er
  | .xfld cs ix _ o => valM fun env S => ((sem C o).v env S).bind fun x S => ofO S (xfldD cs ix x)
  | .xisi tbl o => valM fun env S => ((sem C o).v env S).bind fun x S => ofB S (xisiD tbl x)
  | .olen c m o => valM fun env S => ((sem C o).v env S).bind fun x S => if insOf S c x then lenEx (C m [x] S) else .er
  termination_by structural e => e
def sems (C : CallF) : List E → List Md
  | [] => []
  | e :: es => sem C e :: sems C es
  termination_by structural es => es
def semO (C : CallF) : Option E → Option Md
  | none => none
  | some e => some (sem C e)
  termination_by structural o => o
end
abbrev evalE (C : CallF) (e : E) : Ev → Sto → Re Vl := (sem C e).v
abbrev evalEs (C : CallF) (es : List E) : Ev → Sto → Re (List Vl) := vals (sems C es)
abbrev evalT (C : CallF) (e : E) : Ev → Sto → Re Bool := (sem C e).t
abbrev evalI (C : CallF) (e : E) : Ev → Sto → Re (List D) := (sem C e).i
abbrev assignE (C : CallF) (e : E) : Vl → Ev → Sto → Re Ev := (sem C e).a

inductive RS where
  | nx (env : Ev) (S : Sto) | bk (env : Ev) (S : Sto) | ct (env : Ev) (S : Sto) | rt (v : Vl) (S : Sto) | ex (c : Nat) (fs : List D) (env : Ev) (S : Sto) | er
@[inline] def Re.bindS {α : Type} (env : Ev) (x : Re α) (f : α → Sto → RS) : RS := match x with
  | .ok a S => f a S
  | .ex c fs S => .ex c fs env S
  | .er => .er
@[inline] def Re.okS {α : Type} (x : Re α) (f : α → Sto → RS) : RS := match x with
  | .ok a S => f a S
  | _ => .er
@[inline] def RS.bind (x : RS) (f : Ev → Sto → RS) : RS := match x with
  | .nx env S => f env S
  | r => r
/-- behind a turn of a loop -/
@[inline] def RS.turn (x : RS) (f : Ev → Sto → RS) : RS := match x with
  | .nx env S => f env S
  | .ct env S => f env S
  | .bk env S => .nx env S
  | q => q
def forLoop (asg : D → Ev → Sto → Re Ev) (body : Ev → Sto → RS) : List D → Ev → Sto → RS
  | [], env, S => .nx env S
  | x :: r, env, S => (asg x env S).okS fun env S => (body env S).turn fun env S => forLoop asg body r env S
def whileLoop (test : Ev → Sto → Re Bool) (body : Ev → Sto → RS) : Nat → Ev → Sto → RS
  | 0, _, _ => .er
  | n + 1, env, S => (test env S).bindS env fun k S => if k then (body env S).turn fun env S => whileLoop test body n env S else .nx env S
def setAll : List Nat → List Vl → Ev → Option Ev
  | [], [], env => some env
  | i :: is, v :: vs, env => setAll is vs (env.set i (some v))
  | _, _, _ => none
/-- the list at a name will change no more -/
def freeze (i : Nat) (env : Ev) (S : Sto) (f : Ev → Sto → RS) : RS := match env[i]? with
  | some (some (.r n)) => (match S[n]? with
    | some (.lst ds) => f (env.set i (some (.d (.list ds)))) (S.set n .dead)
    | some (.dic kvs) => f (env.set i (some (.d (.dict kvs)))) (S.set n .dead)
    | _ => .er)
  | _ => .er
def augOk (S : Sto) (op : BOp) (x y : Vl) (f : D → RS) : RS := match binD S op x y with
  | some (.int z) => f (.int z)
  | _ => .er
def augAt (S : Sto) (x y : Vl) (f : Nat → Nat → D → RS) : RS := match x, y with
  | .r n, .d (.int j) => (match S[n]? with
    | some (.lst ds) => if decide (0 ≤ j) then (match ds[j.toNat]? with
      | some u => f n j.toNat u
      | none => .er) else .er
    | _ => .er)
  | _, _ => .er
def augPut (S : Sto) (n j : Nat) (z : D) (env : Ev) : RS := match S[n]? with
  | some (.lst ds) => if decide (j < ds.length) then .nx env (S.set n (.lst (ds.set j z))) else .er
  | _ => .er
/-- a suite begins, ends: the name of the exception -/
def hdIn (i : Option Nat) (c : Nat) (fs : List D) (env : Ev) : Ev := match i with
  | none => env
  | some k => env.set k (some (.x c fs))
def hdOut (i : Option Nat) (env : Ev) : Ev := match i with
  | none => env
  | some k => env.set k none
def hdEnd (i : Option Nat) : RS → RS
  | .nx env S => .nx (hdOut i env) S
  | .bk env S => .bk (hdOut i env) S
  | .ct env S => .ct (hdOut i env) S
  | .rt v S => .rt v S
  | _ => .er
def tryEx (r : RS) (f : Nat → List D → Ev → Sto → RS) : RS := match r with
  | .ex c fs env S => f c fs env S
  | r => r
mutual
def execS (C : CallF) (fu : Nat) : Sm → Ev → Sto → RS
  | .asg t e, env, S => (evalE C e env S).bindS env fun v S => (assignE C t v env S).okS fun env S => .nx env S
  | .par is es, env, S => (evalEs C es env S).bindS env fun vs S => (match setAll is vs env with
    | some env => .nx env S
    | none => .er)
  | .aug i op e, env, S => (match env[i]? with
    | some (some x) => (evalE C e env S).bindS env fun y S => augOk S op x y fun z => .nx (env.set i (some (.d z))) S
    | _ => .er)
  | .augS o i op e, env, S => (evalE C o env S).bindS env fun x S => (evalE C i env S).bindS env fun y S => augAt S x y fun n j u => (evalE C e env S).bindS env fun z S => augOk S op (.d u) z fun q => augPut S n j q env
  | .exp e, env, S => (evalE C e env S).bindS env fun _ S => .nx env S
  | .ret e, env, S => (evalE C e env S).bindS env fun v S => .rt v S
  | .retN, _, S => .rt (.d .none) S
  | .ite c a b, env, S => (evalT C c env S).bindS env fun k S => if k then execSs C fu a env S else execSs C fu b env S
  | .whl c b, env, S => whileLoop (evalT C c) (execSs C fu b) fu env S
  | .for_ t it b, env, S => (evalI C it env S).bindS env fun xs S => forLoop (fun x => assignE C t (.d x)) (execSs C fu b) xs env S
  | .brk, env, S => .bk env S
  | .cnt, env, S => .ct env S
  | .pass, env, S => .nx env S
  | .rse c es, env, S => (evalEs C es env S).bindS env fun vs S => (match allDat vs with
    | some ds => if Nat.beq ds.length es.length then .ex c ds env S else .er
    | none => .er)
  | .nev, _, _ => .er
  | .fz i s, env, S => freeze i env S (execS C fu s)
  | .try_ b hs, env, S => tryEx (execSs C fu b env S) (hdSs C fu hs)
  | .hd _ _ _, _, _ => .er
  termination_by structural s => s
def execSs (C : CallF) (fu : Nat) : List Sm → Ev → Sto → RS
  | [], env, S => .nx env S
  | s :: r, env, S => (execS C fu s env S).bind fun env S => execSs C fu r env S
  termination_by structural ss => ss
def hdS (C : CallF) (fu : Nat) : Sm → Nat → List D → Ev → Sto → RS → RS
  | .hd tbl i b, c, fs, env, S, r => (match tbl.lookup c with
    | some true => hdEnd i (execSs C fu b (hdIn i c fs env) S)
    | some false => r
    | none => .er)
  | _, _, _, _, _, _ => .er
  termination_by structural s => s
def hdSs (C : CallF) (fu : Nat) : List Sm → Nat → List D → Ev → Sto → RS
  | [], c, fs, env, S => .ex c fs env S
  | h :: r, c, fs, env, S => hdS C fu h c fs env S (hdSs C fu r c fs env S)
  termination_by structural hs => hs
end

/-! ### functions -/
def mixSt (seed : Int) (ns : List Int) : Int := ns.foldl (fun st c => (st * 48271 + c % 2147483629 + 1) % 2147483647) seed
/-- a draw: the number, the source behind it -/
def draw (b st : Int) (cs : List Int) (ix : Int) : Int × O :=
  let cell := (cs ++ [0]).getD (ix % max 1 (cs.length : Int)).toNat 0
  if cell ≥ 1000000000000000000 then (cell % b, .src st (cs.set (ix % (cs.length : Int)).toNat (cell / b)) ix)
  else
    let st' := (st * 48271 + cell * 69621 + 11) % 2147483647
    (st' / 7 % b, .src st' cs (ix + 1))
inductive Bd where
  | code (ss : List Sm) | mix | next
structure Fn where
  np : Nat
  ns : Nat
  body : Bd
  keep : Bool := false
def endFn (keep : Bool) (n : Nat) : RS → Re Vl
  | .rt v S => if keep then .ok v S else (match v with
    | .d x => .ok (.d x) (S.take n)
    | _ => .er)
  | .nx _ S => .ok (.d .none) (if keep then S else S.take n)
  | .ex c fs _ S => .ex c fs (S.take n)
  | _ => .er
def mixFn (vs : List Vl) (S : Sto) : Re Vl := match vs with
  | [.s ns, .d (.int k)] => if Nat.ble ns.length 1000 then .ok (.r S.length) (S ++ [.src (mixSt k ns) ns 0]) else .er
  | _ => .er
def nextFn (vs : List Vl) (S : Sto) : Re Vl := match vs with
  | [.r i, .d (.int b)] => (match S[i]? with
    | some (.src st cs ix) => if divOk b then .ok (.d (.int (draw b st cs ix).1)) (S.set i (draw b st cs ix).2) else .er
    | _ => .er)
  | _ => .er
def runBd (C : CallF) (fu : Nat) (F : Fn) (vs : List Vl) (S : Sto) : Re Vl := match F.body with
  | .code ss => endFn F.keep S.length (execSs C fu ss (vs.map some ++ List.replicate (F.ns - F.np) none) S)
  | .mix => mixFn vs S
  | .next => nextFn vs S
def runFn (G : List Fn) (fu : Nat) : Nat → CallF
  | 0, _, _, _ => .er
  | n + 1, f, vs, S => (match G[f]? with
    | none => .er
    | some F => if decide (vs.length = F.np) then runBd (runFn G fu n) fu F vs S else .er)
theorem runFn_eq {G : List Fn} {fu n f : Nat} {F : Fn} {vs : List Vl} {S : Sto} (hG : G[f]? = some F) (hl : vs.length = F.np) : runFn G fu (n + 1) f vs S = runBd (runFn G fu n) fu F vs S := by
  show (match G[f]? with | none => Re.er | some F => if decide (vs.length = F.np) then runBd (runFn G fu n) fu F vs S else .er) = _
  rw [hG]
  simp only [hl, decide_true, if_true]
end Itp

set_option Elab.async false
set_option linter.all false
set_option autoImplicit false
set_option maxRecDepth 100000
set_option maxHeartbeats 4000000
/-! What the heap holds of the interpreter's values. -/
namespace Itp
open PySem L2

/-- the class table: where a class stands, the names of its fields -/
structure Ct where
  ca : Nat → Addr
  cf : Nat → List Str

def kD : Key → D
  | .inl i => .int i
  | .inr x => .str x
mutual
/-- a key of nested tuples as data -/
def nD : NestedKey → D
  | .none => .none
  | .num i => .int i
  | .text x => .str x
  | .tup ks => .tuple (nDs ks)
def nDs : List NestedKey → List D
  | [] => []
  | k :: ks => nD k :: nDs ks
end
/-- a dict with keys of nested tuples: its raw entries -/
def NestO (P : Program) (w : World) (a : Addr) (xs : List (NestedKey × Addr × Value)) : HO := .ext fun h =>
  ∃ o es ep, h.get? a = some o ∧ o.ExactDict ∧ o.data = .dict es ep ∧ es.toList = xs.map (entryOfKey (nestedKind P w)) ∧ (xs.map (·.1)).Nodup ∧ (∀ x ∈ xs, x.1.depth ≤ 8) ∧ (a == sysModules) = false ∧ xs.length ≤ sizeLine

section
variable (P : Program) (w : World) (T : Ct)
mutual
inductive Dr (M : Addr → Prop) (H : Hp) : D → V → Prop
  | non : Dr M H .none .non
  | bl (b : Bool) : Dr M H (.bool b) (.bl b)
  | int (i : Int) : Dr M H (.int i) (.int i)
  | str (x : Str) : Dr M H (.str x) (.str x)
  | lst {a : Addr} {xs : List V} {ds : List D} : H a = some (.lst xs) → ¬ M a → DrAll M H ds xs → Dr M H (.list ds) (.ref a)
  | tup {a : Addr} {o : Obj} {xs : List V} {ds : List D} : H a = some (.frz o (.tup xs)) → o.dict = none → ¬ M a → DrAll M H ds xs → Dr M H (.tuple ds) (.ref a)
  | ins {a dx : Addr} {c : Nat} {fs : List (Str × V)} {ds : List D} {d : D} : H a = some (.ins (T.ca c) dx fs) → ¬ M a → fs.map (·.1) = T.cf c → DrAll M H ds (fs.map (·.2)) → d = mkIns c ds → Dr M H d (.ref a)
  | dK {a : Addr} {o : Obj} {kvs : List (Key × V)} {ds : List D} {d : D} : H a = some (.frz o (.dK kvs)) → ¬ M a → DrAll M H ds (kvs.map (·.2)) → d = .dict ((kvs.map fun q => kD q.1).zip ds) → Dr M H d (.ref a)
  | dN {a : Addr} {o : Obj} {xs : List (NestedKey × Addr × Value)} {vs : List V} {ds : List D} {d : D} : H a = some (.frz o (NestO P w a xs)) → ¬ M a → DrAll M H (xs.map fun q => nD q.1) (xs.map fun q => V.ref q.2.1) → Vals vs (xs.map (·.2.2)) → DrAll M H ds vs →
      d = .dict ((xs.map fun q => nD q.1).zip ds) → Dr M H d (.ref a)
inductive DrAll (M : Addr → Prop) (H : Hp) : List D → List V → Prop
  | nil : DrAll M H [] []
  | cons {d : D} {ds : List D} {v : V} {vs : List V} : Dr M H d v → DrAll M H ds vs → DrAll M H (d :: ds) (v :: vs)
end

/-- what stands at a (and at b, for a source of draws) for an object of the store -/
def ObR (M : Addr → Prop) (H : Hp) (a b : Addr) : O → Prop
  | .lst ds => ∃ xs, H a = some (.lst xs) ∧ DrAll P w T M H ds xs
  | .dic kvs => (∃ hv : List (Key × V), H a = some (.dK hv) ∧ DrAll P w T M H (kvs.map (·.2)) (hv.map (·.2)) ∧ kvs.map (·.1) = hv.map fun q => kD q.1) ∨
      ∃ (xs : List (NestedKey × Addr × Value)) (vs : List V), H a = some (NestO P w a xs) ∧ DrAll P w T M H (kvs.map (·.1)) (xs.map fun q => V.ref q.2.1) ∧ kvs.map (·.1) = (xs.map fun q => nD q.1) ∧ Vals vs (xs.map (·.2.2)) ∧ DrAll P w T M H (kvs.map (·.2)) vs
  | .ins c fs => ∃ (dx : Addr) (gs : List (Str × V)), H a = some (.ins (T.ca c) dx gs) ∧ fs.map (·.1) = gs.map (·.1) ∧ DrAll P w T M H (fs.map (·.2)) (gs.map (·.2))
  | .src st cs ix => H a = some (.lst [.int st, .ref b, .int ix]) ∧ H b = some (.lst (cs.map V.int)) ∧ a ≠ b ∧ cs.length ≤ 1000
  | .dead => True
  | .dk0 => H a = some (.dK [])
def O.live : O → Bool
  | .dead => false
  | _ => true
/-- the addresses that may change -/
def Mt_ (φ : List (Addr × Addr)) (S : Sto) (x : Addr) : Prop := ∃ (n : Nat) (p : Addr × Addr) (o : O), φ[n]? = some p ∧ S[n]? = some o ∧ o.live = true ∧ (x = p.1 ∨ x = p.2)

structure Mem where
  φ : List (Addr × Addr)
  S : Sto
  H : Hp
  len : φ.length = S.length
  apart : ∀ (i j : Nat) (p q : Addr × Addr), i ≠ j → φ[i]? = some p → φ[j]? = some q → p.1 ≠ q.1 ∧ p.1 ≠ q.2 ∧ p.2 ≠ q.1 ∧ p.2 ≠ q.2
  obj : ∀ (n : Nat) (p : Addr × Addr) (o : O), φ[n]? = some p → S[n]? = some o → ObR P w T (Mt_ φ S) H p.1 p.2 o
  there : ∀ (n : Nat) (p : Addr × Addr), φ[n]? = some p → (H p.1).isSome = true ∧ (H p.2).isSome = true
end

section
variable {P : Program} {w : World} {T : Ct}
abbrev Mem.M (m : Mem P w T) : Addr → Prop := Mt_ m.φ m.S
/-- what was pure stands as it stood -/
structure Fut (m m' : Mem P w T) : Prop where
  pre : ∀ (n : Nat) (p : Addr × Addr), m.φ[n]? = some p → m'.φ[n]? = some p
  keep : ∀ x o, m.H x = some o → ¬ m.M x → m'.H x = some o ∧ ¬ m'.M x
theorem Fut.refl (m : Mem P w T) : Fut m m := ⟨fun _ _ h => h, fun _ _ h k => ⟨h, k⟩⟩
theorem Fut.trans {m m1 m2 : Mem P w T} (a : Fut m m1) (b : Fut m1 m2) : Fut m m2 :=
  ⟨fun n p h => b.pre n p (a.pre n p h), fun x o h k => let ⟨h1, k1⟩ := a.keep x o h k; b.keep x o h1 k1⟩

section
variable {M M' : Addr → Prop} {H H' : Hp}
mutual
theorem Dr.mono (k : ∀ x o, H x = some o → ¬ M x → H' x = some o ∧ ¬ M' x) : ∀ (d : D) (v : V), Dr P w T M H d v → Dr P w T M' H' d v
  | _, _, .non => .non
  | _, _, .bl b => .bl b
  | _, _, .int i => .int i
  | _, _, .str x => .str x
  | _, _, .lst h n a => let ⟨h', n'⟩ := k _ _ h n; .lst h' n' (DrAll.mono k _ _ a)
  | _, _, .tup h e n a => let ⟨h', n'⟩ := k _ _ h n; .tup h' e n' (DrAll.mono k _ _ a)
  | _, _, .ins h n e a q => let ⟨h', n'⟩ := k _ _ h n; .ins h' n' e (DrAll.mono k _ _ a) q
  | _, _, .dK h n a q => let ⟨h', n'⟩ := k _ _ h n; .dK h' n' (DrAll.mono k _ _ a) q
  | _, _, .dN h n b r a q => let ⟨h', n'⟩ := k _ _ h n; .dN h' n' (DrAll.mono k _ _ b) r (DrAll.mono k _ _ a) q
theorem DrAll.mono (k : ∀ x o, H x = some o → ¬ M x → H' x = some o ∧ ¬ M' x) : ∀ (ds : List D) (vs : List V), DrAll P w T M H ds vs → DrAll P w T M' H' ds vs
  | _, _, .nil => .nil
  | _, _, .cons a b => .cons (Dr.mono k _ _ a) (DrAll.mono k _ _ b)
end
theorem DrAll.length : ∀ {ds : List D} {vs : List V}, DrAll P w T M H ds vs → ds.length = vs.length
  | _, _, .nil => rfl
  | _, _, .cons _ b => by simp [DrAll.length b]
theorem DrAll.append : ∀ {ds es : List D} {vs us : List V}, DrAll P w T M H ds vs → DrAll P w T M H es us → DrAll P w T M H (ds ++ es) (vs ++ us)
  | _, _, _, _, .nil, b => b
  | _, _, _, _, .cons a r, b => .cons a (DrAll.append r b)
theorem DrAll.get : ∀ {ds : List D} {vs : List V} {i : Nat} {d : D}, DrAll P w T M H ds vs → ds[i]? = some d → ∃ v, vs[i]? = some v ∧ Dr P w T M H d v
  | _, _, _, _, .nil, e => by simp at e
  | _, _, 0, _, .cons a _, e => by simp at e; subst e; exact ⟨_, rfl, a⟩
  | _, _, i + 1, d, .cons _ r, e => by
    obtain ⟨v, h1, h2⟩ := DrAll.get (i := i) (d := d) r (by simpa using e)
    exact ⟨v, by simpa using h1, h2⟩
theorem DrAll.getV : ∀ {ds : List D} {vs : List V} {i : Nat} {v : V}, DrAll P w T M H ds vs → vs[i]? = some v → ∃ d, ds[i]? = some d ∧ Dr P w T M H d v
  | _, _, _, _, .nil, e => by simp at e
  | _, _, 0, _, .cons a _, e => by simp at e; subst e; exact ⟨_, rfl, a⟩
  | _, _, i + 1, v, .cons _ r, e => by
    obtain ⟨d, h1, h2⟩ := DrAll.getV (i := i) (v := v) r (by simpa using e)
    exact ⟨d, by simpa using h1, h2⟩
theorem DrAll.take : ∀ {ds : List D} {vs : List V} (n : Nat), DrAll P w T M H ds vs → DrAll P w T M H (ds.take n) (vs.take n)
  | _, _, 0, _ => .nil
  | _, _, _ + 1, .nil => .nil
  | _, _, n + 1, .cons a r => .cons a (DrAll.take n r)
theorem DrAll.drop : ∀ {ds : List D} {vs : List V} (n : Nat), DrAll P w T M H ds vs → DrAll P w T M H (ds.drop n) (vs.drop n)
  | _, _, 0, r => r
  | _, _, _ + 1, .nil => .nil
  | _, _, n + 1, .cons _ r => DrAll.drop n r
theorem DrAll.set {d : D} {v : V} (a : Dr P w T M H d v) : ∀ {ds : List D} {vs : List V} (n : Nat), DrAll P w T M H ds vs → DrAll P w T M H (ds.set n d) (vs.set n v)
  | _, _, _, .nil => .nil
  | _, _, 0, .cons _ r => .cons a r
  | _, _, n + 1, .cons b r => .cons b (DrAll.set a n r)
theorem DrAll.reverse : ∀ {ds : List D} {vs : List V}, DrAll P w T M H ds vs → DrAll P w T M H ds.reverse vs.reverse
  | _, _, .nil => .nil
  | _, _, .cons a r => by
    rw [List.reverse_cons, List.reverse_cons]
    exact DrAll.append (DrAll.reverse r) (.cons a .nil)
theorem DrAll.ints : ∀ {ns : List Int} {vs : List V}, DrAll P w T M H (ns.map PyData.int) vs → vs = ns.map V.int
  | [], _, .nil => rfl
  | n :: ns, _, .cons a r => by
    cases a with
    | int i => rw [DrAll.ints (ns := ns) r]; rfl
    | ins h n e a q => cases q
    | dK h n a q => cases q
    | dN h n b r a q => cases q
theorem DrAll.of_ints : ∀ (ns : List Int), DrAll P w T M H (ns.map PyData.int) (ns.map V.int)
  | [] => .nil
  | n :: ns => .cons (.int n) (DrAll.of_ints ns)
end

/-! ### values, environments -/
/-- an exception's own dict -/
def ExR (m : Mem P w T) (c : Nat) (fs : List D) (d : Option Addr) : Prop :=
  (fs = [] ∧ d = none) ∨ ∃ (a : Addr) (gs : List (Str × V)), d = some a ∧ m.H a = some (.xd gs) ∧ ¬ m.M a ∧ gs.map (·.1) = T.cf c ∧ DrAll P w T m.M m.H fs (gs.map (·.2))
theorem ExR.mono {m m' : Mem P w T} (f : Fut m m') {c : Nat} {fs : List D} {d : Option Addr} (h : ExR m c fs d) : ExR m' c fs d := by
  rcases h with h | ⟨a, gs, e, h1, h2, h3, h4⟩
  · exact .inl h
  · obtain ⟨k1, k2⟩ := f.keep _ _ h1 h2
    exact .inr ⟨a, gs, e, k1, k2, h3, DrAll.mono f.keep _ _ h4⟩
/-- at a: a caught exception, its very object -/
def xo (a : Addr) (oe : Obj) : HO := .ext fun h => h.get? a = some oe
def VR (K : PySem.W.Frag) (m : Mem P w T) : Vl → V → Prop
  | .d x, v => Dr P w T m.M m.H x v
  | .r n, v => ∃ p, m.φ[n]? = some p ∧ v = .ref p.1
  | .s ns, v => ∃ a, v = .ref a ∧ ((∃ o, m.H a = some (.frz o (.lst (ns.map V.int))) ∧ ¬ m.M a) ∨
      ∃ (o : Obj) (its : Array Value) (n : Nat), K.lookup a = some o ∧ o.cls = .type "list" ∧ o.dict = none ∧ o.data = .seq its n ∧ its.size ≤ sizeLine ∧ Vals (ns.map V.int) its.toList)
  | .x c fs, v => ∃ a, v = .ref a ∧ ∃ (oe : Obj) (d : Option Addr), m.H a = some (xo a oe) ∧ ¬ m.M a ∧ oe.cls = .ref (T.ca c) ∧ oe.dict = d ∧ (∃ vs, oe.data = .fields vs) ∧ ExR m c fs d
theorem VR.mono {K : PySem.W.Frag} {m m' : Mem P w T} (f : Fut m m') : ∀ {v : Vl} {x : V}, VR K m v x → VR K m' v x
  | .d _, _, h => Dr.mono f.keep _ _ h
  | .r _, _, ⟨p, h, e⟩ => ⟨p, f.pre _ _ h, e⟩
  | .s _, _, ⟨a, e, h⟩ => ⟨a, e, h.elim (fun ⟨o, h, n⟩ => .inl ⟨o, f.keep _ _ h n⟩) .inr⟩
  | .x _ _, _, ⟨a, e, oe, d, h, n, r1, r2, r3, r4⟩ => ⟨a, e, oe, d, (f.keep _ _ h n).1, (f.keep _ _ h n).2, r1, r2, r3, r4.mono f⟩
def EnvR (K : PySem.W.Frag) (m : Mem P w T) (env : Ev) (σ : St) : Prop :=
  env.length = σ.length ∧ ∀ (i : Nat) v, env[i]? = some (some v) → ∃ x, σ[i]? = some (some x) ∧ VR K m v x
theorem EnvR.mono {K : PySem.W.Frag} {m m' : Mem P w T} (f : Fut m m') {env : Ev} {σ : St} (h : EnvR K m env σ) : EnvR K m' env σ :=
  ⟨h.1, fun i v e => let ⟨x, h1, h2⟩ := h.2 i v e; ⟨x, h1, h2.mono f⟩⟩
theorem EnvR.set {K : PySem.W.Frag} {m : Mem P w T} {env : Ev} {σ : St} (h : EnvR K m env σ) {i : Nat} {v : Vl} {x : V} (a : VR K m v x) : EnvR K m (env.set i (some v)) (σ.set i (some x)) := by
  refine ⟨by simp [h.1], fun j u e => ?_⟩
  by_cases hj : i = j
  · subst hj
    have hi : i < env.length := by
      have := (List.getElem?_eq_some_iff.mp e).1
      simpa using this
    rw [List.getElem?_set_self hi] at e
    cases e
    exact ⟨x, List.getElem?_set_self (by rw [← h.1]; exact hi), a⟩
  · rw [List.getElem?_set_ne hj] at e
    obtain ⟨y, h1, h2⟩ := h.2 j u e
    exact ⟨y, by rw [List.getElem?_set_ne hj]; exact h1, h2⟩
end
end Itp

set_option Elab.async false
set_option linter.all false
set_option autoImplicit false
set_option maxRecDepth 100000
set_option maxHeartbeats 4000000
/-! The memory grows, is written, is frozen; what is wanted of a result. -/
namespace Itp
open PySem L2
section
variable {P : Program} {w : World} {T : Ct} {K : PySem.W.Frag}

theorem take_some {α : Type} {l : List α} {n i : Nat} {x : α} (h : (l.take n)[i]? = some x) : l[i]? = some x := by
  rw [List.getElem?_take] at h
  split at h
  · exact h
  · cases h
theorem ObR.mono {M M' : Addr → Prop} {H H' : Hp} {a b : Addr} (k : ∀ x o, H x = some o → ¬ M x → H' x = some o ∧ ¬ M' x) (ha : H' a = H a) (hb : H' b = H b) : ∀ {o : O}, ObR P w T M H a b o → ObR P w T M' H' a b o
  | .lst _, ⟨xs, h, r⟩ => ⟨xs, ha.trans h, DrAll.mono k _ _ r⟩
  | .dic _, h => h.elim (fun ⟨hv, h, r, e⟩ => .inl ⟨hv, ha.trans h, DrAll.mono k _ _ r, e⟩) fun ⟨xs, vs, h, r, e, v, q⟩ => .inr ⟨xs, vs, ha.trans h, DrAll.mono k _ _ r, e, v, DrAll.mono k _ _ q⟩
  | .ins _ _, ⟨dx, gs, h, e, r⟩ => ⟨dx, gs, ha.trans h, e, DrAll.mono k _ _ r⟩
  | .src _ _ _, ⟨h1, h2, h3, h4⟩ => ⟨ha.trans h1, hb.trans h2, h3, h4⟩
  | .dead, _ => trivial
  | .dk0, h => ha.trans h

theorem Mem.tracked (m : Mem P w T) {x : Addr} (h : m.M x) : ∃ o, m.H x = some o := by
  obtain ⟨n, p, o, h1, _, _, h4⟩ := h
  obtain ⟨t1, t2⟩ := m.there n p h1
  rcases h4 with rfl | rfl
  · exact Option.isSome_iff_exists.mp t1
  · exact Option.isSome_iff_exists.mp t2
theorem Mem.nofresh (m : Mem P w T) {x : Addr} (h : m.H x = none) : ¬ m.M x := fun q => by
  obtain ⟨o, e⟩ := m.tracked q
  rw [h] at e
  cases e
theorem Mem.φlt (m : Mem P w T) {n : Nat} {o : O} (h : m.S[n]? = some o) : ∃ p, m.φ[n]? = some p := by
  have h1 := (List.getElem?_eq_some_iff.mp h).1
  rw [← m.len] at h1
  exact ⟨_, List.getElem?_eq_getElem h1⟩
theorem Mem.Slt (m : Mem P w T) {n : Nat} {p : Addr × Addr} (h : m.φ[n]? = some p) : ∃ o, m.S[n]? = some o := by
  have h1 := (List.getElem?_eq_some_iff.mp h).1
  rw [m.len] at h1
  exact ⟨_, List.getElem?_eq_getElem h1⟩

/-- the heap has grown -/
def Mem.grow (m : Mem P w T) (H' : Hp) (k : ∀ x o, m.H x = some o → H' x = some o) : Mem P w T where
  φ := m.φ
  S := m.S
  H := H'
  len := m.len
  apart := m.apart
  obj := fun n p o h1 h2 => by
    obtain ⟨t1, t2⟩ := m.there n p h1
    obtain ⟨u1, e1⟩ := Option.isSome_iff_exists.mp t1
    obtain ⟨u2, e2⟩ := Option.isSome_iff_exists.mp t2
    exact ObR.mono (fun x o h n => ⟨k x o h, n⟩) ((k _ _ e1).trans e1.symm) ((k _ _ e2).trans e2.symm) (m.obj n p o h1 h2)
  there := fun n p h => by
    obtain ⟨t1, t2⟩ := m.there n p h
    obtain ⟨u1, e1⟩ := Option.isSome_iff_exists.mp t1
    obtain ⟨u2, e2⟩ := Option.isSome_iff_exists.mp t2
    exact ⟨by rw [k _ _ e1]; rfl, by rw [k _ _ e2]; rfl⟩
theorem Mem.grow_fut (m : Mem P w T) {H' : Hp} (k : ∀ x o, m.H x = some o → H' x = some o) : Fut m (m.grow H' k) := ⟨fun _ _ h => h, fun x o h n => ⟨k x o h, n⟩⟩
theorem upd_keep {H : Hp} {p : Addr} {o : HO} (h : H p = none) : ∀ x u, H x = some u → upd H p o x = some u := fun x u e => by
  rw [upd_ne (ne_of_none e h)]
  exact e
abbrev Mem.add (m : Mem P w T) (p : Addr) (o : HO) (h : m.H p = none) : Mem P w T := m.grow (upd m.H p o) (upd_keep h)
theorem Mem.add_fut (m : Mem P w T) {p : Addr} {o : HO} (h : m.H p = none) : Fut m (m.add p o h) := m.grow_fut _
theorem Mem.add_new (m : Mem P w T) {p : Addr} {o : HO} (h : m.H p = none) : ¬ (m.add p o h).M p := m.nofresh h

/-- a new object of the store -/
def Mem.push (m : Mem P w T) (o : O) (a b : Addr) (H' : Hp) (ha : m.H a = none) (hb : m.H b = none) (k : ∀ x u, m.H x = some u → H' x = some u) (ta : (H' a).isSome = true) (tb : (H' b).isSome = true)
    (hl : o.live = true) (ob : ∀ M : Addr → Prop, (∀ x u, m.H x = some u → ¬ m.M x → ¬ M x) → ObR P w T M H' a b o) : Mem P w T where
  φ := m.φ ++ [(a, b)]
  S := m.S ++ [o]
  H := H'
  len := by simp [m.len]
  apart := fun i j p q ne h1 h2 => by
    have hn : ∀ (i : Nat) (p : Addr × Addr), (m.φ ++ [(a, b)])[i]? = some p → (m.φ[i]? = some p ∧ i < m.φ.length) ∨ (i = m.φ.length ∧ p = (a, b)) := fun i p h => by
      rcases Nat.lt_trichotomy i m.φ.length with hi | hi | hi
      · rw [List.getElem?_append_left hi] at h; exact .inl ⟨h, hi⟩
      · rw [List.getElem?_append_right (by omega), hi] at h; simp at h; exact .inr ⟨hi, h.symm⟩
      · rw [List.getElem?_append_right (by omega)] at h
        have : ([(a, b)] : List (Addr × Addr))[i - m.φ.length]? = none := List.getElem?_eq_none (by simp; omega)
        rw [this] at h; cases h
    have fr : ∀ (i : Nat) (p : Addr × Addr), m.φ[i]? = some p → p.1 ≠ a ∧ p.1 ≠ b ∧ p.2 ≠ a ∧ p.2 ≠ b := fun i p h => by
      obtain ⟨t1, t2⟩ := m.there i p h
      obtain ⟨u1, e1⟩ := Option.isSome_iff_exists.mp t1
      obtain ⟨u2, e2⟩ := Option.isSome_iff_exists.mp t2
      exact ⟨ne_of_none e1 ha, ne_of_none e1 hb, ne_of_none e2 ha, ne_of_none e2 hb⟩
    rcases hn i p h1 with ⟨h1, l1⟩ | ⟨i1, rfl⟩
    · rcases hn j q h2 with ⟨h2, l2⟩ | ⟨j1, rfl⟩
      · exact m.apart i j p q ne h1 h2
      · obtain ⟨f1, f2, f3, f4⟩ := fr i p h1
        exact ⟨f1, f2, f3, f4⟩
    · rcases hn j q h2 with ⟨h2, l2⟩ | ⟨j1, rfl⟩
      · obtain ⟨f1, f2, f3, f4⟩ := fr j q h2
        exact ⟨f1.symm, f3.symm, f2.symm, f4.symm⟩
      · omega
  obj := fun n p u h1 h2 => by
    have keep : ∀ x v, m.H x = some v → ¬ m.M x → ¬ Mt_ (m.φ ++ [(a, b)]) (m.S ++ [o]) x := fun x v e nm => by
      rintro ⟨n, p, u, h1, h2, h3, h4⟩
      rcases Nat.lt_or_ge n m.φ.length with hi | hi
      · rw [List.getElem?_append_left hi] at h1
        rw [List.getElem?_append_left (by rw [← m.len]; exact hi)] at h2
        exact nm ⟨n, p, u, h1, h2, h3, h4⟩
      · rw [List.getElem?_append_right hi] at h1
        have hz : n - m.φ.length = 0 := by
          have := (List.getElem?_eq_some_iff.mp h1).1
          simp at this; omega
        rw [hz] at h1
        simp at h1
        subst h1
        rcases h4 with rfl | rfl
        · rw [ha] at e; cases e
        · rw [hb] at e; cases e
    rcases Nat.lt_or_ge n m.φ.length with hi | hi
    · rw [List.getElem?_append_left hi] at h1
      rw [List.getElem?_append_left (by rw [← m.len]; exact hi)] at h2
      obtain ⟨t1, t2⟩ := m.there n p h1
      obtain ⟨u1, e1⟩ := Option.isSome_iff_exists.mp t1
      obtain ⟨u2, e2⟩ := Option.isSome_iff_exists.mp t2
      exact ObR.mono (fun x o h n => ⟨k x o h, keep x o h n⟩) ((k _ _ e1).trans e1.symm) ((k _ _ e2).trans e2.symm) (m.obj n p u h1 h2)
    · rw [List.getElem?_append_right hi] at h1
      have hz : n - m.φ.length = 0 := by
        have := (List.getElem?_eq_some_iff.mp h1).1
        simp at this; omega
      rw [List.getElem?_append_right (by rw [← m.len]; exact hi), ← m.len, hz] at h2
      rw [hz] at h1
      simp at h1 h2
      subst h1 h2
      exact ob _ keep
  there := fun n p h => by
    rcases Nat.lt_or_ge n m.φ.length with hi | hi
    · rw [List.getElem?_append_left hi] at h
      obtain ⟨t1, t2⟩ := m.there n p h
      obtain ⟨u1, e1⟩ := Option.isSome_iff_exists.mp t1
      obtain ⟨u2, e2⟩ := Option.isSome_iff_exists.mp t2
      exact ⟨by rw [k _ _ e1]; rfl, by rw [k _ _ e2]; rfl⟩
    · rw [List.getElem?_append_right hi] at h
      have hz : n - m.φ.length = 0 := by
        have := (List.getElem?_eq_some_iff.mp h).1
        simp at this; omega
      rw [hz] at h
      simp at h
      subst h
      exact ⟨ta, tb⟩
theorem mt_push {φ : List (Addr × Addr)} {S : Sto} {a b x : Addr} {o : O} (hl : φ.length = S.length) (h : Mt_ (φ ++ [(a, b)]) (S ++ [o]) x) : Mt_ φ S x ∨ x = a ∨ x = b := by
  obtain ⟨n, p, u, h1, h2, h3, h4⟩ := h
  rcases Nat.lt_or_ge n φ.length with hi | hi
  · rw [List.getElem?_append_left hi] at h1
    rw [List.getElem?_append_left (by rw [← hl]; exact hi)] at h2
    exact .inl ⟨n, p, u, h1, h2, h3, h4⟩
  · rw [List.getElem?_append_right hi] at h1
    have hz : n - φ.length = 0 := by
      have := (List.getElem?_eq_some_iff.mp h1).1
      simp at this; omega
    rw [hz] at h1
    simp at h1
    subst h1
    exact .inr h4
theorem Mem.push_fut (m : Mem P w T) {o : O} {a b : Addr} {H' : Hp} (ha : m.H a = none) (hb : m.H b = none) (k : ∀ x u, m.H x = some u → H' x = some u) (ta : (H' a).isSome = true) (tb : (H' b).isSome = true)
    (hl : o.live = true) (ob : ∀ M : Addr → Prop, (∀ x u, m.H x = some u → ¬ m.M x → ¬ M x) → ObR P w T M H' a b o) : Fut m (m.push o a b H' ha hb k ta tb hl ob) :=
  ⟨fun n p h => by
    show (m.φ ++ [(a, b)])[n]? = some p
    rw [List.getElem?_append_left (List.getElem?_eq_some_iff.mp h).1]; exact h, fun x u e n => ⟨k x u e, fun q => by
    rcases mt_push m.len q with q | rfl | rfl
    · exact n q
    · rw [ha] at e; cases e
    · rw [hb] at e; cases e⟩⟩

theorem mt_set {φ : List (Addr × Addr)} {S : Sto} {n : Nat} {o o' : O} {x : Addr} (ho : S[n]? = some o) (hl : o.live = true) (h : Mt_ φ (S.set n o') x) : Mt_ φ S x := by
  obtain ⟨j, p, u, h1, h2, h3, h4⟩ := h
  by_cases e : n = j
  · subst e; exact ⟨n, p, o, h1, ho, hl, h4⟩
  · rw [List.getElem?_set_ne e] at h2
    exact ⟨j, p, u, h1, h2, h3, h4⟩
theorem mt_set' {φ : List (Addr × Addr)} {S : Sto} {n : Nat} {o o' : O} {x : Addr} (ho : S[n]? = some o) (hl : o'.live = true) (h : Mt_ φ S x) : Mt_ φ (S.set n o') x := by
  obtain ⟨j, p, u, h1, h2, h3, h4⟩ := h
  by_cases e : n = j
  · subst e; exact ⟨n, p, o', h1, List.getElem?_set_self (List.getElem?_eq_some_iff.mp ho).1, hl, h4⟩
  · exact ⟨j, p, u, h1, by rw [List.getElem?_set_ne e]; exact h2, h3, h4⟩
/-- an object of the store is written (or frozen: o' dead, H' = H) -/
def Mem.put (m : Mem P w T) (n : Nat) (p : Addr × Addr) (o o' : O) (H' : Hp) (hp : m.φ[n]? = some p) (ho : m.S[n]? = some o) (hl : o.live = true) (k : ∀ x, x ≠ p.1 → x ≠ p.2 → H' x = m.H x) (ta : (H' p.1).isSome = true) (tb : (H' p.2).isSome = true)
    (ob : ObR P w T (Mt_ m.φ (m.S.set n o')) H' p.1 p.2 o') : Mem P w T where
  φ := m.φ
  S := m.S.set n o'
  H := H'
  len := by simp [m.len]
  apart := m.apart
  obj := fun j q u h1 h2 => by
    by_cases e : n = j
    · subst e
      rw [List.getElem?_set_self (List.getElem?_eq_some_iff.mp ho).1] at h2
      cases h2
      rw [hp] at h1
      cases h1
      exact ob
    · rw [List.getElem?_set_ne e] at h2
      obtain ⟨a1, a2, a3, a4⟩ := m.apart n j p q e hp h1
      have at1 : Mt_ m.φ m.S p.1 := ⟨n, p, o, hp, ho, hl, .inl rfl⟩
      have at2 : Mt_ m.φ m.S p.2 := ⟨n, p, o, hp, ho, hl, .inr rfl⟩
      refine ObR.mono (fun x v hx nm => ⟨?_, fun z => nm (mt_set ho hl z)⟩) (k _ a1.symm a3.symm) (k _ a2.symm a4.symm) (m.obj j q u h1 h2)
      rw [k x (fun z => nm (z ▸ at1)) (fun z => nm (z ▸ at2))]
      exact hx
  there := fun j q h => by
    by_cases e : n = j
    · subst e
      rw [hp] at h
      cases h
      exact ⟨ta, tb⟩
    · obtain ⟨a1, a2, a3, a4⟩ := m.apart n j p q e hp h
      rw [k _ a1.symm a3.symm, k _ a2.symm a4.symm]
      exact m.there j q h
theorem Mem.put_fut (m : Mem P w T) {n : Nat} {p : Addr × Addr} {o o' : O} {H' : Hp} (hp : m.φ[n]? = some p) (ho : m.S[n]? = some o) (hl : o.live = true) (k : ∀ x, x ≠ p.1 → x ≠ p.2 → H' x = m.H x) (ta : (H' p.1).isSome = true) (tb : (H' p.2).isSome = true)
    (ob : ObR P w T (Mt_ m.φ (m.S.set n o')) H' p.1 p.2 o') : Fut m (m.put n p o o' H' hp ho hl k ta tb ob) :=
  ⟨fun _ _ h => h, fun x u e nm => by
    have at1 : Mt_ m.φ m.S p.1 := ⟨n, p, o, hp, ho, hl, .inl rfl⟩
    have at2 : Mt_ m.φ m.S p.2 := ⟨n, p, o, hp, ho, hl, .inr rfl⟩
    refine ⟨?_, fun z => nm (mt_set ho hl z)⟩
    show H' x = some u
    rw [k x (fun z => nm (z ▸ at1)) (fun z => nm (z ▸ at2))]
    exact e⟩
/-- the store cut back -/
def Mem.cut (m : Mem P w T) (n : Nat) : Mem P w T where
  φ := m.φ.take n
  S := m.S.take n
  H := m.H
  len := by simp [m.len]
  apart := fun i j p q ne h1 h2 => m.apart i j p q ne (take_some h1) (take_some h2)
  obj := fun j p o h1 h2 => by
    refine ObR.mono (fun x v hx nm => ⟨hx, fun z => nm ?_⟩) rfl rfl (m.obj j p o (take_some h1) (take_some h2))
    obtain ⟨i, q, u, a1, a2, a3, a4⟩ := z
    exact ⟨i, q, u, take_some a1, take_some a2, a3, a4⟩
  there := fun j p h => m.there j p (take_some h)
end
end Itp

set_option Elab.async false
set_option linter.all false
set_option autoImplicit false
set_option maxRecDepth 100000
set_option maxHeartbeats 4000000
/-! Readings by the interpreter. -/
namespace Itp
open PySem L2
section
variable {P : Program} {w : World} {T : Ct} {K : PySem.W.Frag}

def OutG {α β : Type} (R : Mem P w T → α → β → Prop) (W : WX) (σ : St) (m : Mem P w T) (r : Re α) (Q : β → Hp → Prop) : Prop := match r with
  | .ok a S => ∀ (b : β) (m' : Mem P w T), Fut m m' → m'.S = S → R m' a b → Q b m'.H
  | .ex c fs S => ∀ (d : Option Addr) (m' : Mem P w T), Fut m m' → m'.S = S → ExR m' c fs d → W (.ref (T.ca c)) d σ m'.H
  | .er => False
def OutD (m : Mem P w T) (r : Option D) (Q : VK) : Prop := match r with
  | some d => ∀ (x : V) (m' : Mem P w T), Fut m m' → m'.S = m.S → Dr P w T m'.M m'.H d x → Q x m'.H
  | none => False
abbrev BoR : Mem P w T → Bool → Bool → Prop := fun _ a b => a = b
abbrev OiR : Mem P w T → Option Int → Option Int → Prop := fun _ a b => a = b
inductive VRs (K : PySem.W.Frag) (m : Mem P w T) : List Vl → List V → Prop
  | nil : VRs K m [] []
  | cons {v : Vl} {x : V} {vs : List Vl} {xs : List V} : VR K m v x → VRs K m vs xs → VRs K m (v :: vs) (x :: xs)
theorem VRs.mono {m m' : Mem P w T} (f : Fut m m') : ∀ {vs : List Vl} {xs : List V}, VRs K m vs xs → VRs K m' vs xs
  | _, _, .nil => .nil
  | _, _, .cons a b => .cons (a.mono f) (VRs.mono f b)
theorem VRs.length {m : Mem P w T} : ∀ {vs : List Vl} {xs : List V}, VRs K m vs xs → vs.length = xs.length
  | _, _, .nil => rfl
  | _, _, .cons _ b => by simp [VRs.length b]
theorem VRs.dat {m : Mem P w T} : ∀ {vs : List Vl} {xs : List V} {ds : List D}, VRs K m vs xs → allDat vs = some ds → DrAll P w T m.M m.H ds xs
  | _, _, _, .nil, e => by simp [allDat] at e; subst e; exact .nil
  | _, _, _, .cons (v := .d x) a b, e => by
    simp [allDat] at e
    obtain ⟨r, h, rfl⟩ := e
    exact .cons a (VRs.dat b h)
  | _, _, _, .cons (v := .r n) a b, e => by simp [allDat] at e
  | _, _, _, .cons (v := .s n) a b, e => by simp [allDat] at e
  | _, _, _, .cons (v := .x n k) a b, e => by simp [allDat] at e

section
variable {α β γ δ : Type} {R : Mem P w T → α → β → Prop} {R' : Mem P w T → γ → δ → Prop} {W : WX} {σ : St} {m m1 : Mem P w T} {Q : δ → Hp → Prop}
theorem OutG.fut {r : Re γ} (f : Fut m m1) (h : OutG R' W σ m r Q) : OutG R' W σ m1 r Q := by
  cases r with
  | ok a S => exact fun b m' g e x => h b m' (f.trans g) e x
  | ex c fs S => exact fun d m' g e x => h d m' (f.trans g) e x
  | er => exact h
theorem OutG.bind {r : Re α} {f : α → Sto → Re γ} (h : OutG R' W σ m (r.bind f) Q) :
    OutG R W σ m r (fun b H1 => ∃ (a : α) (m1 : Mem P w T), Fut m m1 ∧ m1.H = H1 ∧ R m1 a b ∧ OutG R' W σ m1 (f a m1.S) Q) := by
  cases r with
  | ok a S => exact fun b m1 g e x => ⟨a, m1, g, rfl, x, OutG.fut g (by rw [e]; exact h)⟩
  | ex c fs S => exact h
  | er => exact h
theorem OutG.imp {r : Re γ} {Q' : δ → Hp → Prop} (h : OutG R' W σ m r Q) (k : ∀ b H, Q b H → Q' b H) : OutG R' W σ m r Q' := by
  cases r with
  | ok a S => exact fun b m' g e x => k _ _ (h b m' g e x)
  | ex c fs S => exact h
  | er => exact h
theorem OutG.get {a : γ} {b : δ} (h : OutG R' W σ m (.ok a m.S) Q) (x : R' m a b) : Q b m.H := h b m (Fut.refl m) rfl x
end
theorem OutD.fut {m m1 : Mem P w T} {r : Option D} {Q : VK} (f : Fut m m1) (e : m1.S = m.S) (h : OutD m r Q) : OutD m1 r Q := by
  cases r with
  | some d => exact fun x m' g e' y => h x m' (f.trans g) (e'.trans e) y
  | none => exact h
theorem OutD.of {W : WX} {σ : St} {m : Mem P w T} {r : Option D} {Q : VK} (h : OutG (VR K) W σ m (ofO m.S r) Q) : OutD m r Q := by
  cases r with
  | some d => exact fun x m' g e y => h x m' g e y
  | none => exact h
theorem OutD.ofB {W : WX} {σ : St} {m : Mem P w T} {r : Option Bool} {Q : VK} (h : OutG (VR K) W σ m (ofB m.S r) Q) : OutD m (r.map PyData.bool) Q := by
  cases r with
  | some d => exact fun x m' g e y => h x m' g e y
  | none => exact h
theorem OutD.get {m : Mem P w T} {d : D} {x : V} {Q : VK} (h : OutD m (some d) Q) (y : Dr P w T m.M m.H d x) : Q x m.H := h x m (Fut.refl m) rfl y
/-- a new object, pure -/
theorem OutD.new {m : Mem P w T} {d : D} {Q : VK} {o : HO} (h : OutD m (some d) Q) (y : ∀ p (hp : m.H p = none), Dr P w T (m.add p o hp).M (m.add p o hp).H d (.ref p)) : ∀ p, m.H p = none → Q (.ref p) (upd m.H p o) :=
  fun p hp => h (.ref p) (m.add p o hp) (m.add_fut hp) rfl (y p hp)
theorem Dr.add {m : Mem P w T} {p : Addr} {o : HO} (hp : m.H p = none) {d : D} {v : V} (h : Dr P w T m.M m.H d v) : Dr P w T (m.add p o hp).M (m.add p o hp).H d v := Dr.mono (m.add_fut hp).keep _ _ h
theorem DrAll.add {m : Mem P w T} {p : Addr} {o : HO} (hp : m.H p = none) {d : List D} {v : List V} (h : DrAll P w T m.M m.H d v) : DrAll P w T (m.add p o hp).M (m.add p o hp).H d v := DrAll.mono (m.add_fut hp).keep _ _ h
theorem dr_newL {m : Mem P w T} {ds : List D} {vs : List V} (h : DrAll P w T m.M m.H ds vs) (p : Addr) (hp : m.H p = none) : Dr P w T (m.add p (.lst vs) hp).M (m.add p (.lst vs) hp).H (.list ds) (.ref p) :=
  .lst upd_same (m.add_new hp) (h.add hp)
/-- a new tuple: its very object is known -/
theorem OutD.tup {m : Mem P w T} {ds : List D} {xs : List V} {Q : VK} (h : OutD m (some (.tuple ds)) Q) (r : DrAll P w T m.M m.H ds xs) (p : Addr) (o : Obj) (hp : m.H p = none) (ho : o.dict = none) : Q (.ref p) (upd m.H p (.frz o (.tup xs))) :=
  h (.ref p) (m.add p (.frz o (.tup xs)) hp) (m.add_fut hp) rfl (.tup upd_same ho (m.add_new hp) (r.add hp))

variable (P w T K)
def tE (ev : Ev → Sto → Re Vl) (W : WX) : TE := fun σ H Q => ∃ (env : Ev) (m : Mem P w T), m.H = H ∧ EnvR K m env σ ∧ OutG (VR K) W σ m (ev env m.S) Q
def tT (ev : Ev → Sto → Re Bool) (W : WX) : TT := fun σ H Q => ∃ (env : Ev) (m : Mem P w T), m.H = H ∧ EnvR K m env σ ∧ OutG BoR W σ m (ev env m.S) Q
def tA (ev : Ev → Sto → Re (List Vl)) (W : WX) : TA := fun σ H Q => ∃ (env : Ev) (m : Mem P w T), m.H = H ∧ EnvR K m env σ ∧ OutG (VRs K) W σ m (ev env m.S) Q
def tO (ev : Ev → Sto → Re (Option Int)) (W : WX) : TO := fun σ H Q => ∃ (env : Ev) (m : Mem P w T), m.H = H ∧ EnvR K m env σ ∧ OutG OiR W σ m (ev env m.S) Q
/-- two values, one pure result -/
def rD2 (f : Sto → Vl → Vl → Option D) : R2 := fun x y H Q => ∃ (m : Mem P w T) (a b : Vl), m.H = H ∧ VR K m a x ∧ VR K m b y ∧ OutD m (f m.S a b) Q
def rD1 (f : Sto → Vl → Option D) : V → Hp → VK → Prop := fun x H Q => ∃ (m : Mem P w T) (a : Vl), m.H = H ∧ VR K m a x ∧ OutD m (f m.S a) Q
def rDs (f : Sto → List Vl → Option D) : List V → Hp → VK → Prop := fun xs H Q => ∃ (m : Mem P w T) (as : List Vl), m.H = H ∧ VRs K m as xs ∧ OutD m (f m.S as) Q
variable {P w T K}
section
variable {W : WX} {σ : St} {H : Hp} {Q : VK} {evA evB : Ev → Sto → Re Vl}
theorem tE_bind {ev : Ev → Sto → Re Vl} {f : Ev → Vl → Sto → Re Vl} (h : tE P w T K (fun env S => (ev env S).bind fun x S => f env x S) W σ H Q) :
    tE P w T K ev W σ H fun x H1 => ∃ (env : Ev) (m : Mem P w T) (a : Vl), m.H = H1 ∧ EnvR K m env σ ∧ VR K m a x ∧ OutG (VR K) W σ m (f env a m.S) Q := by
  obtain ⟨env, m, e, er, o⟩ := h
  refine ⟨env, m, e, er, (OutG.bind o).imp ?_⟩
  rintro b H1 ⟨a, m1, f1, rfl, x, o1⟩
  exact ⟨env, m1, a, rfl, er.mono f1, x, o1⟩
theorem two_ {f : Sto → Vl → Vl → Option D} (h : tE P w T K (fun env S => (evA env S).bind fun x S => (evB env S).bind fun y S => ofO S (f S x y)) W σ H Q) :
    tE P w T K evA W σ H fun x H1 => tE P w T K evB W σ H1 fun y H2 => rD2 P w T K f x y H2 Q := by
  obtain ⟨env, m, e, er, o⟩ := h
  refine ⟨env, m, e, er, (OutG.bind o).imp ?_⟩
  rintro b H1 ⟨a, m1, f1, rfl, x, o1⟩
  refine ⟨env, m1, rfl, er.mono f1, (OutG.bind o1).imp ?_⟩
  rintro c H2 ⟨d, m2, f2, rfl, y, o2⟩
  exact ⟨m2, a, d, rfl, x.mono f2, y, OutD.of o2⟩
theorem twoB {f : Sto → Vl → Vl → Option Bool} (h : tE P w T K (fun env S => (evA env S).bind fun x S => (evB env S).bind fun y S => ofB S (f S x y)) W σ H Q) :
    tE P w T K evA W σ H fun x H1 => tE P w T K evB W σ H1 fun y H2 => rD2 P w T K (fun S a b => (f S a b).map PyData.bool) x y H2 Q := by
  obtain ⟨env, m, e, er, o⟩ := h
  refine ⟨env, m, e, er, (OutG.bind o).imp ?_⟩
  rintro b H1 ⟨a, m1, f1, rfl, x, o1⟩
  refine ⟨env, m1, rfl, er.mono f1, (OutG.bind o1).imp ?_⟩
  rintro c H2 ⟨d, m2, f2, rfl, y, o2⟩
  exact ⟨m2, a, d, rfl, x.mono f2, y, OutD.ofB o2⟩
theorem one_ {f : Sto → Vl → Option D} (h : tE P w T K (fun env S => (evA env S).bind fun x S => ofO S (f S x)) W σ H Q) : tE P w T K evA W σ H fun x H1 => rD1 P w T K f x H1 Q := by
  obtain ⟨env, m, e, er, o⟩ := h
  refine ⟨env, m, e, er, (OutG.bind o).imp ?_⟩
  rintro b H1 ⟨a, m1, f1, rfl, x, o1⟩
  exact ⟨m1, a, rfl, x, OutD.of o1⟩
theorem oneB {f : Sto → Vl → Option Bool} (h : tE P w T K (fun env S => (evA env S).bind fun x S => ofB S (f S x)) W σ H Q) : tE P w T K evA W σ H fun x H1 => rD1 P w T K (fun S a => (f S a).map PyData.bool) x H1 Q := by
  obtain ⟨env, m, e, er, o⟩ := h
  refine ⟨env, m, e, er, (OutG.bind o).imp ?_⟩
  rintro b H1 ⟨a, m1, f1, rfl, x, o1⟩
  exact ⟨m1, a, rfl, x, OutD.ofB o1⟩
end
end

/-! ### judgements weakened -/
section
variable {X : Cx}
theorem imE {e : Expr} {t t' : TE} (h : PE X e t) (k : ∀ σ H Q, t' σ H Q → t σ H Q) : PE X e t' := ⟨fun pins s σ H Q I q => h.run pins s σ H Q I (k _ _ _ q)⟩
theorem imT {e : Expr} {t t' : TT} (h : PT X e t) (k : ∀ σ H Q, t' σ H Q → t σ H Q) : PT X e t' := ⟨fun pins s σ H Q I q => h.run pins s σ H Q I (k _ _ _ q)⟩
theorem imW {e : Expr} {t t' : TT} (h : PW X e t) (k : ∀ σ H Q, t' σ H Q → t σ H Q) : PW X e t' := ⟨fun wh pins s σ H Q I q => h.run wh pins s σ H Q I (k _ _ _ q)⟩
theorem imA {es : List Expr} {t t' : TA} (h : PA X es t) (k : ∀ σ H Q, t' σ H Q → t σ H Q) : PA X es t' := ⟨fun pos pins s σ H Q I q => h.run pos pins s σ H Q I (k _ _ _ q)⟩
theorem imO {e : Option Expr} {t t' : TO} (h : PO X e t) (k : ∀ σ H Q, t' σ H Q → t σ H Q) : PO X e t' := ⟨fun pins s σ H Q I q => h.run pins s σ H Q I (k _ _ _ q)⟩
theorem imI {tg e : Expr} {t t' : TI} (h : PI X tg e t) (k : ∀ σ H Q, t' σ H Q → t σ H Q) : PI X tg e t' := ⟨fun pins s σ H Q I q => h.run pins s σ H Q I (k _ _ _ q)⟩
theorem imG {e : Expr} {t t' : TG} (h : PG X e t) (k : ∀ v σ H Q, t' v σ H Q → t v σ H Q) : PG X e t' := ⟨fun pins s σ H v u Q I r q => h.run pins s σ H v u Q I r (k _ _ _ _ q)⟩
theorem imGs {e : List Expr} {t t' : TGs} (h : PGs X e t) (k : ∀ v σ H Q, t' v σ H Q → t v σ H Q) : PGs X e t' := ⟨fun pins s σ H v u Q I r q => h.run pins s σ H v u Q I r (k _ _ _ _ q)⟩
theorem imS {e : Stmt} {t t' : TS} (h : PS X e t) (k : ∀ D σ H, t' D σ H → t D σ H) : PS X e t' := ⟨fun pins s σ H D I q => h.run pins s σ H D I (k _ _ _ q)⟩
theorem imSs {e : List Stmt} {t t' : TS} (h : PSs X e t) (k : ∀ D σ H, t' D σ H → t D σ H) : PSs X e t' := ⟨fun pins s σ H D I q => h.run pins s σ H D I (k _ _ _ q)⟩
end
end Itp

set_option Elab.async false
set_option linter.all false
set_option autoImplicit false
set_option maxRecDepth 100000
set_option maxHeartbeats 4000000
/-! Operators. -/
namespace Itp
open PySem L2
section
variable {P : Program} {w : World} {T : Ct} {K : PySem.W.Frag}
section
variable {M : Addr → Prop} {H : Hp} {v : V}
theorem Dr.int_inv {i : Int} (h : Dr P w T M H (.int i) v) : v = .int i := by
  cases h with
  | int => rfl
  | ins _ _ _ _ q => cases q
  | dK _ _ _ q => cases q
  | dN _ _ _ _ _ q => cases q
theorem Dr.bl_inv {i : Bool} (h : Dr P w T M H (.bool i) v) : v = .bl i := by
  cases h with
  | bl => rfl
  | ins _ _ _ _ q => cases q
  | dK _ _ _ q => cases q
  | dN _ _ _ _ _ q => cases q
theorem Dr.str_inv {i : Str} (h : Dr P w T M H (.str i) v) : v = .str i := by
  cases h with
  | str => rfl
  | ins _ _ _ _ q => cases q
  | dK _ _ _ q => cases q
  | dN _ _ _ _ _ q => cases q
theorem Dr.non_inv (h : Dr P w T M H .none v) : v = .non := by
  cases h with
  | non => rfl
  | ins _ _ _ _ q => cases q
  | dK _ _ _ q => cases q
  | dN _ _ _ _ _ q => cases q
/-- a tuple that stands there, without a dict of its own -/
def TupAt (H : Hp) (a : Addr) (xs : List V) : Prop := ∃ o : Obj, o.dict = none ∧ H a = some (.frz o (.tup xs))
theorem sqT {K : PySem.W.Frag} {H : Hp} {a : Addr} {xs : List V} (h : TupAt H a xs) : SqT K H a xs := let ⟨o, _, e⟩ := h; .inl (.inr ⟨o, e⟩)
theorem Dr.tup_inv {ds : List D} (h : Dr P w T M H (.tuple ds) v) : ∃ a xs, v = .ref a ∧ TupAt H a xs ∧ ¬ M a ∧ DrAll P w T M H ds xs := by
  cases h with
  | tup h e n a => exact ⟨_, _, rfl, ⟨_, e, h⟩, n, a⟩
  | ins _ _ _ _ q => cases q
  | dK _ _ _ q => cases q
  | dN _ _ _ _ _ q => cases q
theorem Dr.lst_inv {ds : List D} (h : Dr P w T M H (.list ds) v) : ∃ a xs, v = .ref a ∧ H a = some (.lst xs) ∧ ¬ M a ∧ DrAll P w T M H ds xs := by
  cases h with
  | lst h n a => exact ⟨_, _, rfl, h, n, a⟩
  | ins _ _ _ _ q => cases q
  | dK _ _ _ q => cases q
  | dN _ _ _ _ _ q => cases q
theorem Dr.not_none {d : D} (h : Dr P w T M H d v) : (v = .non) ↔ d = .none := by
  cases h with
  | non => simp
  | ins _ _ _ _ q => subst q; simp [mkIns]
  | dK _ _ _ q => subst q; simp
  | dN _ _ _ _ _ q => subst q; simp
  | _ => simp
end
theorem lst_of {m : Mem P w T} {a : Vl} {x : V} {ds : List D} (h : VR K m a x) (e : asLst m.S a = some ds) : ∃ b xs, x = .ref b ∧ m.H b = some (.lst xs) ∧ DrAll P w T m.M m.H ds xs := by
  unfold asLst at e
  split at e
  · cases e
    obtain ⟨b, xs, rfl, h1, _, h2⟩ := Dr.lst_inv h
    exact ⟨b, xs, rfl, h1, h2⟩
  · rename_i n
    split at e
    · rename_i ds' he
      cases e
      obtain ⟨p, hp, rfl⟩ := h
      obtain ⟨xs, h1, h2⟩ := m.obj n p _ hp he
      exact ⟨p.1, xs, rfl, h1, h2⟩
    · cases e
  · cases e
theorem seq_of {m : Mem P w T} {a : Vl} {x : V} {ds : List D} (h : VR K m a x) (e : seqOf m.S a = some ds) : ∃ b xs, x = .ref b ∧ (m.H b = some (.lst xs) ∨ TupAt m.H b xs) ∧ DrAll P w T m.M m.H ds xs := by
  unfold seqOf at e
  split at e
  · cases e
    obtain ⟨b, xs, rfl, h1, _, h2⟩ := Dr.tup_inv h
    exact ⟨b, xs, rfl, .inr h1, h2⟩
  · obtain ⟨b, xs, rfl, h1, h2⟩ := lst_of h e
    exact ⟨b, xs, rfl, .inl h1, h2⟩
theorem inLine_le {n : Nat} (h : inLine n = true) : n ≤ 100000 := Nat.le_of_ble_eq_true h
theorem inLine_sz {n : Nat} (h : inLine n = true) : n ≤ sizeLine := Nat.le_trans (inLine_le h) (by decide)
theorem DrAll.nil_iff {M : Addr → Prop} {H : Hp} {ds : List D} {xs : List V} (h : DrAll P w T M H ds xs) : xs = [] ↔ ds = [] := by
  cases h <;> simp
theorem DrAll.rep {M : Addr → Prop} {H : Hp} {ds : List D} {xs : List V} (h : DrAll P w T M H ds xs) : ∀ k : Nat, DrAll P w T M H (List.replicate k ds).flatten (List.replicate k xs).flatten
  | 0 => .nil
  | k + 1 => by
    rw [List.replicate_succ, List.replicate_succ, List.flatten_cons, List.flatten_cons]
    exact h.append (DrAll.rep h k)
end

section
variable {X : Cx} {T : Ct}
abbrev tupO (its : List Value) : Obj := { cls := .type "tuple", data := .seq its.toArray }
/-- a new tuple has come -/
theorem ep_tup {pins : List (Addr × Obj)} {σ : St} {s : Shared} {m : Mem X.prog X.w T} {ds : List D} {xs : List V} {its : List Value} {Q : VK} (I : L2.Inv X pins σ m.H s) (o : OutD m (some (.tuple ds)) Q) (r : DrAll X.prog X.w T m.M m.H ds xs) (rv : Vals xs its) (hz : xs.length ≤ sizeLine) (t : Nat) :
    EP X pins σ Q (.ref s.heap.objs.size) { s with heap := s.heap.push (tupO its), toks := t } := by
  refine ⟨.ref s.heap.objs.size, _, I.laid (t' := t) (o := .frz (tupO its) (.tup xs)) (fun b ob q => Heap.get?_push_of_some _ q) (Nat.le_refl _) ⟨Heap.get?_push_size _ rfl, hz, its, rv, PyProof.Rows.IsTup.new _ _⟩, rfl, ?_⟩
  exact o.tup r _ _ (I.hok.fresh (Nat.le_refl _)) rfl
abbrev rB (X : Cx) (T : Ct) (op : BOp) : R2 := rD2 X.prog X.w T X.K (fun S => binD S op)
theorem divOk_W {i j : Int} (h : divOk j = true) : CDivW i j := by
  obtain ⟨h1, h2⟩ := divOk_iff.mp h
  exact wide_div (b := 160) h1 (by have e : (2 : Nat) ^ 160 = 1461501637330902918203684832716283019655932542976 := by decide
                                   omega) (by decide) (by decide)
theorem o_add : OpR X (binaryOp .Add) (rB X T .add) := by
  intro pins s σ H x y v u Q I rx ry h
  obtain ⟨m, a, b, rfl, va, vb, o⟩ := h
  replace o : OutD m (addD m.S a b) Q := o
  unfold addD at o
  split at o
  · cases Dr.int_inv va
    cases Dr.int_inv vb
    exact op_add pins s σ m.H _ _ v u Q I rx ry ⟨_, _, rfl, rfl, o.get (.int _)⟩
  · cases Dr.str_inv va
    cases Dr.str_inv vb
    split at o
    · rename_i hl
      exact op_add_str pins s σ m.H _ _ v u Q I rx ry ⟨_, _, rfl, rfl, inLine_sz hl, o.get (.str _)⟩
    · exact o.elim
  · split at o
    · rename_i hl
      obtain ⟨p, xs, rfl, h1, n1, r1⟩ := Dr.tup_inv va
      obtain ⟨q, ys, rfl, h2, n2, r2⟩ := Dr.tup_inv vb
      have hz : xs.length + ys.length ≤ sizeLine := by
        rw [← r1.length, ← r2.length]
        exact inLine_sz hl
      cases rx
      cases ry
      obtain ⟨its, rv1, p1, _⟩ := I.tuple (sqT h1)
      obtain ⟨its2, rv2, p2, _⟩ := I.tuple (sqT h2)
      by_cases hx : xs = []
      · have e' := r1.nil_iff.mp hx
        subst e'
        subst hx
        cases rv1
        exact cat_tup0 p1 p2 ⟨.ref q, m.H, I, rfl, o.get vb⟩
      · have hv : its ≠ [] := fun z => hx (by
          subst z
          cases rv1
          rfl)
        refine HT.cat_tup p1 p2 hv (fun z => ?_) (fun z => ?_) (by rw [← rv1.length, ← rv2.length]; exact hz)
        · subst z
          cases rv2
          have e' := r2.nil_iff.mp rfl
          subst e'
          rw [List.append_nil] at o
          exact ⟨.ref p, m.H, I, rfl, o.get va⟩
        · exact ep_tup (t := s.toks) I o (r1.append r2) (rv1.append rv2) (by rw [List.length_append]; exact hz)
    · exact o.elim
  · split at o
    · rename_i ds es e1 e2
      split at o
      · rename_i hl
        obtain ⟨p, xs, rfl, h1, r1⟩ := lst_of va e1
        obtain ⟨q, ys, rfl, h2, r2⟩ := lst_of vb e2
        exact op_cat pins s σ m.H _ _ v u Q I rx ry ⟨p, q, xs, ys, rfl, rfl, h1, h2, by rw [← r1.length, ← r2.length]; exact inLine_sz hl, o.new (dr_newL (r1.append r2))⟩
      · exact o.elim
    · exact o.elim
theorem o_sub : OpR X (binaryOp .Sub) (rB X T .sub) := by
  intro pins s σ H x y v u Q I rx ry h
  obtain ⟨m, a, b, rfl, va, vb, o⟩ := h
  replace o : OutD m (minusD a b) Q := o
  unfold minusD at o
  split at o
  · cases Dr.int_inv va
    cases Dr.int_inv vb
    exact op_sub pins s σ m.H _ _ v u Q I rx ry ⟨_, _, rfl, rfl, o.get (.int _)⟩
  · exact o.elim
theorem o_fdiv : OpR X (binaryOp .FloorDiv) (rB X T .fdiv) := by
  intro pins s σ H x y v u Q I rx ry h
  obtain ⟨m, a, b, rfl, va, vb, o⟩ := h
  replace o : OutD m (fdivD a b) Q := o
  unfold fdivD at o
  split at o
  · cases Dr.int_inv va
    cases Dr.int_inv vb
    split at o
    · rename_i hl
      exact op_fdivW pins s σ m.H _ _ v u Q I rx ry ⟨_, _, rfl, rfl, divOk_W hl, o.get (.int _)⟩
    · exact o.elim
  · exact o.elim
theorem o_mod : OpR X (binaryOp .Mod) (rB X T .mod) := by
  intro pins s σ H x y v u Q I rx ry h
  obtain ⟨m, a, b, rfl, va, vb, o⟩ := h
  replace o : OutD m (modD a b) Q := o
  unfold modD at o
  split at o
  · cases Dr.int_inv va
    cases Dr.int_inv vb
    split at o
    · rename_i hl
      exact op_mod pins s σ m.H _ _ v u Q I rx ry ⟨_, _, rfl, rfl, of_decide_eq_true hl, o.get (.int _)⟩
    · exact o.elim
  · exact o.elim
theorem o_pow : OpR X (binaryOp .Pow) (rB X T .pow) := by
  intro pins s σ H x y v u Q I rx ry h
  obtain ⟨m, a, b, rfl, va, vb, o⟩ := h
  replace o : OutD m (powD a b) Q := o
  unfold powD at o
  split at o
  · cases Dr.int_inv va
    cases Dr.int_inv vb
    split at o
    · rename_i hl
      rw [Bool.and_eq_true] at hl
      have h1 := of_decide_eq_true hl.1
      have h2 := Nat.le_of_ble_eq_true hl.2
      exact op_pow pins s σ m.H _ _ v u Q I rx ry ⟨_, _, rfl, rfl, ⟨h1.1, by omega, Nat.lt_of_le_of_lt h2 (by decide)⟩, o.get (.int _)⟩
    · exact o.elim
  · exact o.elim
end
end Itp

set_option Elab.async false
set_option linter.all false
set_option autoImplicit false
set_option maxRecDepth 100000
set_option maxHeartbeats 4000000
/-! tuple * int, list * int. -/
namespace Itp
open PySem PySem.Spec PyProof.Rows L2
theorem tuple_mulS (l : Addr) (items : Array Value) (n : Nat) (dd : Option Addr) (sl : Array (Option Value)) (x : Int) (u : Tok) (c0 : (decide (x < -(2 ^ 63)) || decide (x ≥ 2 ^ 63)) = false) (c1 : (items.isEmpty || x == 1) = true) :
    Meets (Builtin.«tuple.__mul__» ⟨[.ref l, .int x u], []⟩) (fun _ R s => s.heap.get? l = some { cls := .type "tuple", dict := dd, data := .seq items n, slots := sl } ∧
      R (.ok (.ret (Value.ref l))) s) :=
  .of_wp fun prog w A R s h => by
    obtain ⟨hp, g, d, tk, os⟩ := s
    obtain ⟨hl, h⟩ := h
    have f1 := AutoSeq1.idx_int
    wp_walk using wpAny_loadPart' hl
    repeat (first
      | (refine wpAny_ite_false (decide_eq_false (by rw [c0]; exact Bool.false_ne_true)) ?_; wp_walk using wpAny_loadPart' hl)
      | (refine wpAny_ite_true (decide_eq_true (by rw [c1])) ?_; wp_walk using wpAny_loadPart' hl))
    exact ⟨_, rfl, h⟩
theorem tuple_mulZ (l : Addr) (items : Array Value) (n : Nat) (dd : Option Addr) (sl : Array (Option Value)) (x : Int) (u : Tok) (c0 : (decide (x < -(2 ^ 63)) || decide (x ≥ 2 ^ 63)) = false) (c1 : (items.isEmpty || x == 1) = false) (c2 : (decide (x ≤ 0) || items.isEmpty) = true) :
    Meets (Builtin.«tuple.__mul__» ⟨[.ref l, .int x u], []⟩) (fun _ R s => s.heap.get? l = some { cls := .type "tuple", dict := dd, data := .seq items n, slots := sl } ∧
      R (.ok (.ret (Value.ref s.heap.objs.size))) { s with heap := s.heap.push { cls := Value.type "tuple", data := Data.seq #[] }, toks := s.toks }) :=
  .of_wp fun prog w A R s h => by
    obtain ⟨hp, g, d, tk, os⟩ := s
    obtain ⟨hl, h⟩ := h
    have f1 := AutoSeq1.idx_int
    wp_walk using wpAny_loadPart' hl
    repeat (first
      | (refine wpAny_ite_false (decide_eq_false (by rw [c0]; exact Bool.false_ne_true)) ?_; wp_walk using wpAny_loadPart' hl)
      | (refine wpAny_ite_false (decide_eq_false (by rw [c1]; exact Bool.false_ne_true)) ?_; wp_walk using wpAny_loadPart' hl)
      | (refine wpAny_ite_true (decide_eq_true (by rw [c2])) ?_; wp_walk using wpAny_loadPart' hl))
    exact ⟨_, rfl, h⟩
section
variable {X : Cx} {T : Ct}
theorem mul_road {pins : List (Addr × Obj)} {σ : L2.St} {H : Hp} {s : Shared} {l : Addr} {k : Int} {t : Tok} {dd : Option Addr} {sl : Array (Option Value)} {items : Array Value} {n : Nat} {Q : Value → Shared → Prop} {E : Value → Shared → Prop}
    (ho : s.heap.get? l = some { cls := .type "tuple", dict := dd, data := .seq items n, slots := sl })
    (h : wpAny (model X.prog X.w) X.A (call (.builtin "tuple.__mul__") [.ref l, .int k t]) Q E s) : wpAny (model X.prog X.w) X.A (binaryOp .Mult (.ref l) (.int k t)) Q E s := by
  refine wpAny_binaryOp_repeat_ref (T := "tuple") (U := "int") (by decide) ⟨_, ho, rfl⟩ (fun s' => typeIs_int s' k t) noFill_tuple_mul F.fills_int_mul F.slot_int_rmul repeat_tuple F.slot_int_index.lookup
    (call_meets F.slot_int_rmul (typeIs_int s k t) F.entry_int_rmul (F.args_int_rmul_2 _ _) (int_rmul_tuple k t l items n dd sl)
      ⟨ho, rfl, ⟨_, ho, rfl⟩, h⟩)
theorem o_mul : OpR X (binaryOp .Mult) (rB X T .mul) := by
  intro pins s σ H x y v u Q I rx ry h
  obtain ⟨m, a, b, rfl, va, vb, o⟩ := h
  replace o : OutD m (mulD a b) Q := o
  unfold mulD at o
  split at o
  · cases Dr.int_inv va
    cases Dr.int_inv vb
    split at o
    · rename_i i j hl
      refine op_mul pins s σ m.H _ _ v u Q I rx ry ⟨_, _, rfl, rfl, ?_, o.get (.int _)⟩
      unfold mulOk at hl
      rw [Bool.or_eq_true] at hl
      rcases hl with hl | hl
      · have := Nat.le_of_ble_eq_true hl
        exact .inl ⟨by omega, by omega⟩
      · have := Nat.le_of_ble_eq_true hl
        exact .inr ⟨by omega, by omega⟩
    · exact o.elim
  · split at o
    · rename_i ds k hl
      rw [Bool.and_eq_true] at hl
      have h1 := of_decide_eq_true hl.1
      have h2 := Nat.le_of_ble_eq_true hl.2
      obtain ⟨p, xs, rfl, hp, np, r⟩ := Dr.tup_inv va
      cases Dr.int_inv vb
      have hlen := r.length
      by_cases c1 : ds = [] ∨ k = 1
      · cases rx
        obtain ⟨t, rfl⟩ := ry
        obtain ⟨its, rv, ⟨⟨cls, dd, data, sl⟩, ho, hc, n, hd⟩, hs⟩ := I.tuple (sqT hp)
        simp only at hc hd
        subst hc hd
        have hle := rv.length
        refine mul_road (pins := pins) (σ := σ) (H := m.H) ho (call_meets F.slot_tuple_mul ⟨_, ho, rfl⟩ F.entry_tuple_mul (F.args_tuple_mul_2 _ _) (tuple_mulS p its.toArray n dd sl k t ?_ ?_) ⟨ho, ?_⟩)
        · rw [decide_eq_false (by omega), decide_eq_false (by omega)] <;> rfl
        · rcases c1 with c1 | c1
          · subst c1
            have : its = [] := List.eq_nil_of_length_eq_zero (by rw [← hle, ← hlen]; rfl)
            subst this
            rfl
          · subst c1
            rw [beq_self_eq_true, Bool.or_true]
        · refine ⟨.ref p, m.H, I, rfl, o.get ?_⟩
          have e : repL ds k = ds := by
            unfold repL
            rcases c1 with c1 | c1
            · subst c1; simp
            · subst c1; simp
          rw [e]
          obtain ⟨ob, eo, eh⟩ := hp
          exact .tup eh eo np r
      · have hne : ds ≠ [] := fun e => c1 (.inl e)
        have hk1 : k ≠ 1 := fun e => c1 (.inr e)
        have hxs : xs ≠ [] := fun e => hne (r.nil_iff.mp e)
        by_cases c2 : k = 0
        · subst c2
          cases rx
          obtain ⟨t, rfl⟩ := ry
          obtain ⟨its, rv, ⟨⟨cls, dd, data, sl⟩, ho, hc, n, hd⟩, hs⟩ := I.tuple (sqT hp)
          simp only at hc hd
          subst hc hd
          have hle := rv.length
          have hi : its.toArray.isEmpty = false := by
            cases its with
            | nil => rw [← hlen] at hle; exact absurd (List.eq_nil_of_length_eq_zero hle) hne
            | cons a b => rfl
          refine mul_road (pins := pins) (σ := σ) (H := m.H) ho (call_meets F.slot_tuple_mul ⟨_, ho, rfl⟩ F.entry_tuple_mul (F.args_tuple_mul_2 _ _) (tuple_mulZ p its.toArray n dd sl 0 t rfl ?_ ?_) ⟨ho, ?_⟩)
          · rw [hi]; rfl
          · rfl
          · exact ep_tup (its := []) (t := s.toks) I (show OutD m (some (.tuple [])) Q from o) .nil .nil (Nat.zero_le _)
        · cases rx
          obtain ⟨t, rfl⟩ := ry
          obtain ⟨its, rv, ⟨⟨cls, dd, data, sl⟩, ho, hc, n, hd⟩, hs⟩ := I.tuple (sqT hp)
          simp only at hc hd
          subst hc hd
          have hle := rv.length
          have hi : its.toArray.isEmpty = false := by
            cases its with
            | nil => rw [← hlen] at hle; exact absurd (List.eq_nil_of_length_eq_zero hle) hne
            | cons a b => rfl
          have hsz0 : its.toArray.size = xs.length := by rw [List.size_toArray, hle]
          have hm : ((its.toArray.size : Nat) : Int) * k ≤ 1000000 := by
            rw [hsz0]
            have a1 : ((xs.length : Nat) : Int) * k ≤ 1000 * k := Int.mul_le_mul_of_nonneg_right (by omega) (by omega)
            omega
          have flen : (List.replicate k.toNat its).flatten.length ≤ sizeLine := by
            rw [PyProof.Rows.lm_len_rep_flat, ← hle, sizeLine_eq]
            have a1 : k.toNat * xs.length ≤ 1000 * 1000 := Nat.mul_le_mul (by omega) (by omega)
            omega
          refine mul_road (pins := pins) (σ := σ) (H := m.H) ho (call_meets F.slot_tuple_mul ⟨_, ho, rfl⟩ F.entry_tuple_mul (F.args_tuple_mul_2 _ _) (tuple_mulW p its.toArray n dd sl k t ?_ ?_ ?_ (by omega) ?_ (by rw [size_rep, List.size_toArray]; exact flen)) ⟨ho, ?_⟩)
          · rw [decide_eq_false (by omega), decide_eq_false (by omega)] <;> rfl
          · rw [hi, Bool.false_or]
            exact beq_eq_false_iff_ne.mpr (by omega)
          · rw [hi, Bool.or_false]
            exact decide_eq_false (by omega)
          · unfold Builtin.Tuple.tupleTooMany
            rw [sizeLine_eq]
            exact decide_eq_false (by omega)
          · rw [size_rep]
            exact ep_tup (t := s.toks) I o (r.rep k.toNat) (rv.rep k.toNat) (by rw [(rv.rep k.toNat).length]; exact flen)
    · exact o.elim
  · split at o
    · rename_i ds k hl
      rw [Bool.and_eq_true] at hl
      have h1 := of_decide_eq_true hl.1
      have h2 := Nat.le_of_ble_eq_true hl.2
      obtain ⟨p, xs, rfl, hp, np, r⟩ := Dr.lst_inv va
      cases Dr.int_inv vb
      have hlen := r.length
      refine op_rep pins s σ m.H _ _ v u Q I rx ry ⟨p, k, xs, rfl, rfl, hp, by omega, by omega, ?_, o.new (dr_newL (r.rep k.toNat))⟩
      have a1 : xs.length * k.toNat ≤ 1000 * 1000 := Nat.mul_le_mul (by omega) (by omega)
      exact Nat.le_trans a1 (by decide)
    · exact o.elim
  · cases Dr.str_inv va
    cases Dr.int_inv vb
    split at o
    · rename_i hl
      rw [Bool.and_eq_true] at hl
      have h1 := of_decide_eq_true hl.1
      have h2 := Nat.le_of_ble_eq_true hl.2
      obtain ⟨t, rfl⟩ := rx
      obtain ⟨t2, rfl⟩ := ry
      exact PySem.W.KXi.mul rfl h2 (by omega) (by omega) fun t' k _ _ => ⟨.str _, m.H, I.tok _, ⟨_, rfl⟩, o.get (.str _)⟩
    · exact o.elim
  · exact o.elim
end
end Itp

set_option Elab.async false
set_option linter.all false
set_option autoImplicit false
set_option maxRecDepth 100000
set_option maxHeartbeats 4000000
/-! Comparisons. -/
namespace Itp
open PySem L2
section
variable {P : Program} {w : World} {T : Ct} {K : PySem.W.Frag} {M : Addr → Prop} {H : Hp}
mutual
theorem Dr.dp : ∀ (d : D) (v : V), Dr P w T M H d v → d.canLay0 = true → Dp K H v d
  | _, _, .non, _ => .non
  | _, _, .bl b, _ => .bl b
  | _, _, .int i, _ => .int i
  | _, _, .str x, _ => .str x
  | _, _, .lst h n a, c => .lst (SqL.of h) (DrAll.dp _ _ a (by simpa [PyData.canLay0] using c))
  | _, _, .tup h e n a, c => .tup (sqT ⟨_, e, h⟩) (DrAll.dp _ _ a (by simpa [PyData.canLay0] using c))
  | _, _, .ins h n e a q, c => by subst q; simp [mkIns, PyData.canLay0] at c
  | _, _, .dK h n a q, c => by subst q; simp [PyData.canLay0] at c
  | _, _, .dN h n b r a q, c => by subst q; simp [PyData.canLay0] at c
theorem DrAll.dp : ∀ (ds : List D) (vs : List V), DrAll P w T M H ds vs → PyData.canLayAll0 ds = true → DpAll K H vs ds
  | _, _, .nil, _ => .nil
  | _, _, .cons a b, c => by
    rw [PyData.canLayAll0, Bool.and_eq_true] at c
    exact .cons (Dr.dp _ _ a c.1) (DrAll.dp _ _ b c.2)
end
theorem allInts_map : ∀ {ds : List D}, allInts ds = true → ds = (intsOf ds).map PyData.int
  | [], _ => rfl
  | .int i :: r, h => by
    have := allInts_map (ds := r) (by simpa [allInts] using h)
    show _ = PyData.int i :: (intsOf r).map PyData.int
    rw [← this]
  | .none :: _, h => by simp [allInts] at h
  | .bool _ :: _, h => by simp [allInts] at h
  | .str _ :: _, h => by simp [allInts] at h
  | .list _ :: _, h => by simp [allInts] at h
  | .tuple _ :: _, h => by simp [allInts] at h
  | .dict _ :: _, h => by simp [allInts] at h
theorem DrAll.allI {ds : List D} {vs : List V} (h : DrAll P w T M H ds vs) (e : allInts ds = true) : vs = (intsOf ds).map V.int := by
  have := allInts_map e
  rw [this] at h
  exact DrAll.ints h
end
section
variable {X : Cx} {T : Ct}
abbrev rC (X : Cx) (T : Ct) (op : COp) : R2 := rD2 X.prog X.w T X.K (fun S a b => (cmpD S op a b).map PyData.bool)
theorem c_eq (hu : X.A.units + 64 < cLine) : OpR X (compareOp .Eq) (rC X T .eq) := by
  intro pins s σ H x y v u Q I rx ry h
  obtain ⟨m, a, b, rfl, va, vb, o⟩ := h
  replace o : OutD m ((eqVl m.S a b).map PyData.bool) Q := o
  unfold eqVl at o
  split at o
  · split at o
    · rename_i hs
      rw [Bool.and_eq_true] at hs
      exact op_eqD hu pins s σ m.H _ _ v u Q I rx ry ⟨_, _, Dr.dp _ _ va (SeqAt.canLay_of_shaped hs.1), Dr.dp _ _ vb (SeqAt.canLay_of_shaped hs.2), hs.1, hs.2, o.get (.bl _)⟩
    · exact o.elim
  · exact o.elim
theorem c_ne (hu : X.A.units + 64 < cLine) : OpR X (compareOp .NotEq) (rC X T .ne) := by
  intro pins s σ H x y v u Q I rx ry h
  obtain ⟨m, a, b, rfl, va, vb, o⟩ := h
  replace o : OutD m (((eqVl m.S a b).map not).map PyData.bool) Q := o
  unfold eqVl at o
  split at o
  · split at o
    · rename_i hs
      rw [Bool.and_eq_true] at hs
      exact op_neD hu pins s σ m.H _ _ v u Q I rx ry ⟨_, _, Dr.dp _ _ va (SeqAt.canLay_of_shaped hs.1), Dr.dp _ _ vb (SeqAt.canLay_of_shaped hs.2), hs.1, hs.2, o.get (.bl _)⟩
    · exact o.elim
  · exact o.elim
theorem c_isN : OpR X (compareOp .Is) (rC X T .isN) := by
  intro pins s σ H x y v u Q I rx ry h
  obtain ⟨m, a, b, rfl, va, vb, o⟩ := h
  replace o : OutD m ((if isNone b then some (isNone a) else none).map PyData.bool) Q := o
  split at o
  · rename_i hb
    have eb : b = .d .none := by
      unfold isNone at hb
      split at hb
      · rfl
      · cases hb
    subst eb
    cases Dr.non_inv vb
    refine op_isN pins s σ m.H _ _ v u Q I rx ry ⟨rfl, ?_⟩
    have e : decide (x = .non) = isNone a := by
      cases a with
      | d z =>
        have := Dr.not_none va
        by_cases hz : z = .none
        · subst hz
          rw [decide_eq_true (this.mpr rfl)]
          rfl
        · rw [decide_eq_false (fun q => hz (this.mp q))]
          cases z <;> first | rfl | exact absurd rfl hz
      | r n =>
        obtain ⟨p, _, rfl⟩ := va
        exact decide_eq_false (fun q => nomatch q)
      | s ns =>
        obtain ⟨p, rfl, _⟩ := va
        exact decide_eq_false (fun q => nomatch q)
      | x c fs =>
        obtain ⟨p, rfl, _⟩ := va
        exact decide_eq_false (fun q => nomatch q)
    rw [e]
    exact o.get (.bl _)
  · exact o.elim
theorem c_notN : OpR X (compareOp .IsNot) (rC X T .notN) := by
  intro pins s σ H x y v u Q I rx ry h
  obtain ⟨m, a, b, rfl, va, vb, o⟩ := h
  replace o : OutD m ((if isNone b then some (!isNone a) else none).map PyData.bool) Q := o
  split at o
  · rename_i hb
    have eb : b = .d .none := by
      unfold isNone at hb
      split at hb
      · rfl
      · cases hb
    subst eb
    cases Dr.non_inv vb
    refine op_notN pins s σ m.H _ _ v u Q I rx ry ⟨rfl, ?_⟩
    have e : decide (x = .non) = isNone a := by
      cases a with
      | d z =>
        have := Dr.not_none va
        by_cases hz : z = .none
        · subst hz
          rw [decide_eq_true (this.mpr rfl)]
          rfl
        · rw [decide_eq_false (fun q => hz (this.mp q))]
          cases z <;> first | rfl | exact absurd rfl hz
      | r n =>
        obtain ⟨p, _, rfl⟩ := va
        exact decide_eq_false (fun q => nomatch q)
      | s ns =>
        obtain ⟨p, rfl, _⟩ := va
        exact decide_eq_false (fun q => nomatch q)
      | x c fs =>
        obtain ⟨p, rfl, _⟩ := va
        exact decide_eq_false (fun q => nomatch q)
    rw [e]
    exact o.get (.bl _)
  · exact o.elim
end
end Itp

set_option Elab.async false
set_option linter.all false
set_option autoImplicit false
set_option maxRecDepth 100000
set_option maxHeartbeats 4000000
/-! Order of ints and of tuples of ints. -/
namespace Itp
open PySem L2
theorem lexAt_shift (e r : Nat → Bool) (d : Bool) : ∀ (n i : Nat), Ob.lexAt e r d (i + 1) n = Ob.lexAt (fun j => e (j + 1)) (fun j => r (j + 1)) d i n
  | 0, _ => rfl
  | n + 1, i => by
    rw [Ob.lexAt_succ, Ob.lexAt_succ, lexAt_shift e r d n (i + 1)]
def lexF (f : Int → Int → Bool) (d : Bool) : List Int → List Int → Bool
  | x :: xs, y :: ys => if x = y then lexF f d xs ys else f x y
  | [], _ => d
  | _ :: _, [] => d
theorem lexAt_lists (f : Int → Int → Bool) (d : Bool) : ∀ ns ms : List Int, Ob.lexAt (fun j => decide (ns.getD j 0 = ms.getD j 0)) (fun j => f (ns.getD j 0) (ms.getD j 0)) d 0 (min ns.length ms.length) = lexF f d ns ms
  | [], ms => by
    rw [show min ([] : List Int).length ms.length = 0 by simp]
    rfl
  | x :: xs, [] => by
    rw [show min (x :: xs).length ([] : List Int).length = 0 by simp]
    rfl
  | x :: xs, y :: ys => by
    rw [show min (x :: xs).length (y :: ys).length = min xs.length ys.length + 1 by simp, Ob.lexAt_succ, lexAt_shift]
    have ih := lexAt_lists f d xs ys
    simp only [List.getD_cons_zero, List.getD_cons_succ, decide_eq_true_eq, lexF]
    rw [ih]
theorem lex_le : ∀ ns ms : List Int, lexF (fun x y => decide (x ≤ y)) (decide (ns.length ≤ ms.length)) ns ms = !HT.lexLt ms ns
  | [], [] => rfl
  | [], _ :: _ => by simp [lexF, HT.lexLt]
  | _ :: _, [] => by simp [lexF, HT.lexLt]
  | x :: xs, y :: ys => by
    have ih := lex_le xs ys
    simp only [lexF, HT.lexLt, List.length_cons]
    rw [show decide (xs.length + 1 ≤ ys.length + 1) = decide (xs.length ≤ ys.length) by simp]
    by_cases h : x = y
    · rw [if_pos h, if_pos h.symm, ih]
    · rw [if_neg h, if_neg (Ne.symm h)]
      by_cases h2 : y < x
      · rw [decide_eq_true h2, decide_eq_false (by omega)]; rfl
      · rw [decide_eq_false h2, decide_eq_true (by omega)]; rfl
theorem lex_gt : ∀ ns ms : List Int, lexF (fun x y => decide (y < x)) (decide (ns.length > ms.length)) ns ms = HT.lexLt ms ns
  | [], [] => rfl
  | [], _ :: _ => by simp [lexF, HT.lexLt]
  | _ :: _, [] => by simp [lexF, HT.lexLt]
  | x :: xs, y :: ys => by
    have ih := lex_gt xs ys
    simp only [lexF, HT.lexLt, List.length_cons]
    rw [show decide (xs.length + 1 > ys.length + 1) = decide (xs.length > ys.length) by simp]
    by_cases h : x = y
    · rw [if_pos h, if_pos h.symm, ih]
    · rw [if_neg h, if_neg (Ne.symm h)]
theorem lex_ge : ∀ ns ms : List Int, lexF (fun x y => decide (y ≤ x)) (decide (ns.length ≥ ms.length)) ns ms = !HT.lexLt ns ms
  | [], [] => rfl
  | [], _ :: _ => by simp [lexF, HT.lexLt]
  | _ :: _, [] => by simp [lexF, HT.lexLt]
  | x :: xs, y :: ys => by
    have ih := lex_ge xs ys
    simp only [lexF, HT.lexLt, List.length_cons]
    rw [show decide (xs.length + 1 ≥ ys.length + 1) = decide (xs.length ≥ ys.length) by simp]
    by_cases h : x = y
    · rw [if_pos h, if_pos h, ih]
    · rw [if_neg h, if_neg h]
      by_cases h2 : x < y
      · rw [decide_eq_true h2, decide_eq_false (by omega)]; rfl
      · rw [decide_eq_false h2, decide_eq_true (by omega)]; rfl
section
variable {X : Cx} {T : Ct}
theorem ints_at {vs : List Value} {ns : List Int} (h : PyProof.Rows.IntsAre vs ns) {j : Nat} (hj : j < vs.toArray.size) : ∃ t, vs.toArray[j] = Value.int (ns.getD j 0) t := by
  induction h generalizing j with
  | nil => simp at hj
  | cons a t r ih =>
    cases j with
    | zero => exact ⟨t, by simp⟩
    | succ j =>
      obtain ⟨u, e⟩ := ih (j := j) (by simpa using hj)
      exact ⟨u, by simpa using e⟩
theorem cmp_tups {op : CmpOp} {g : Int → Int → Bool} {z : Nat → Nat → Bool} {f : List Int → List Int → Bool} (hz : ∀ ns ms : List Int, lexF g (z ns.length ms.length) ns ms = f ns ms)
    (hg : ∀ {A : Around} {s : Shared} (a b : Int) (t u : Tok), Ob.RcOp op A s (.int a t) (.int b u) (g a b))
    (ht : ∀ {A : Around} {s : Shared} {l b : Addr} {items items2 : Array Value} {e r : Nat → Bool} (hl : s.heap.IsTuple l items) (hb : s.heap.IsTuple b items2) (hu : A.units < cLine)
      (he : ∀ j (h1 : j < items.size) (h2 : j < items2.size), SeqAt.EqAt A.in1 s items[j] items2[j] (e j)) (hr : ∀ j (h1 : j < items.size) (h2 : j < items2.size), e j = false → Ob.RcOp op A.in1 s items[j] items2[j] (r j)),
      Ob.RcOp op A s (.ref l) (.ref b) (Ob.lexAt e r (z items.size items2.size) 0 (min items.size items2.size)))
    (hu : X.A.units < cLine) {pins : List (Addr × Obj)} {s : Shared} {σ : St} {H : Hp} {p q : Addr} {ns ms : List Int} {Q : VK} (I : L2.Inv X pins σ H s) (h1 : TupAt H p (ns.map V.int)) (h2 : TupAt H q (ms.map V.int)) (k : Q (.bl (f ns ms)) H) :
    wpAny (model X.prog X.w) X.A (richCompare op (.ref p) (.ref q)) (EP X pins σ Q) X.xe s := by
  obtain ⟨its, r1, p1, _⟩ := I.tuple (sqT h1)
  obtain ⟨its2, r2, p2, _⟩ := I.tuple (sqT h2)
  have i1 := intsAre_of r1
  have i2 := intsAre_of r2
  have n1 : its.toArray.size = ns.length := by simpa using i1.length
  have n2 : its2.toArray.size = ms.length := by simpa using i2.length
  have R := ht (A := X.A) (s := s) (e := fun j => decide (ns.getD j 0 = ms.getD j 0)) (r := fun j => g (ns.getD j 0) (ms.getD j 0)) p1 p2 hu
    (fun j a b => by
      obtain ⟨t, e1⟩ := ints_at i1 a
      obtain ⟨u, e2⟩ := ints_at i2 b
      rw [e1, e2]
      have := SeqAt.EqAt.int_int (A := X.A.in1) (s := s) (ns.getD j 0) t (ms.getD j 0) u
      rw [show decide (ns.getD j 0 = ms.getD j 0) = (ns.getD j 0 == ms.getD j 0) by rw [Bool.eq_iff_iff]; simp]
      exact this)
    (fun j a b _ => by
      obtain ⟨t, e1⟩ := ints_at i1 a
      obtain ⟨u, e2⟩ := ints_at i2 b
      rw [e1, e2]
      exact hg _ _ _ _)
  rw [n1, n2, lexAt_lists, hz] at R
  exact R X.prog X.w X.xe (EP X pins σ Q) ⟨.bl (f ns ms), H, I, rfl, k⟩
theorem c_lt (hu : X.A.units < cLine) : OpR X (compareOp .Lt) (rC X T .lt) := by
  intro pins s σ H x y v u Q I rx ry h
  obtain ⟨m, a, b, rfl, va, vb, o⟩ := h
  replace o : OutD m ((ltVl a b).map PyData.bool) Q := o
  unfold ltVl at o
  split at o
  · cases Dr.int_inv va
    cases Dr.int_inv vb
    exact op_lt pins s σ m.H _ _ v u Q I rx ry ⟨_, _, rfl, rfl, o.get (.bl _)⟩
  · split at o
    · rename_i hs
      rw [Bool.and_eq_true] at hs
      obtain ⟨p, xs, rfl, h1, _, r1⟩ := Dr.tup_inv va
      obtain ⟨q, ys, rfl, h2, _, r2⟩ := Dr.tup_inv vb
      rw [r1.allI hs.1] at h1
      rw [r2.allI hs.2] at h2
      exact op_ltT hu pins s σ m.H _ _ v u Q I rx ry ⟨p, q, _, _, rfl, rfl, sqT h1, sqT h2, o.get (.bl _)⟩
    · exact o.elim
  · exact o.elim
theorem c_gt (hu : X.A.units < cLine) : OpR X (compareOp .Gt) (rC X T .gt) := by
  intro pins s σ H x y v u Q I rx ry h
  obtain ⟨m, a, b, rfl, va, vb, o⟩ := h
  replace o : OutD m ((ltVl b a).map PyData.bool) Q := o
  unfold ltVl at o
  split at o
  · cases Dr.int_inv va
    cases Dr.int_inv vb
    exact op_gt pins s σ m.H _ _ v u Q I rx ry ⟨_, _, rfl, rfl, o.get (.bl _)⟩
  · split at o
    · rename_i hs
      rw [Bool.and_eq_true] at hs
      obtain ⟨p, xs, rfl, h1, _, r1⟩ := Dr.tup_inv va
      obtain ⟨q, ys, rfl, h2, _, r2⟩ := Dr.tup_inv vb
      rw [r1.allI hs.2] at h1
      rw [r2.allI hs.1] at h2
      cases rx
      cases ry
      exact cmp_tups (g := fun x y => decide (y < x)) (z := fun a b => decide (a > b)) lex_gt Ob.RcOp.gt_int Ob.RcOp.tuples_gt hu I h1 h2 (o.get (.bl _))
    · exact o.elim
  · exact o.elim
theorem c_le (hu : X.A.units < cLine) : OpR X (compareOp .LtE) (rC X T .le) := by
  intro pins s σ H x y v u Q I rx ry h
  obtain ⟨m, a, b, rfl, va, vb, o⟩ := h
  replace o : OutD m (((ltVl b a).map not).map PyData.bool) Q := o
  unfold ltVl at o
  split at o
  · cases Dr.int_inv va
    cases Dr.int_inv vb
    refine op_le pins s σ m.H _ _ v u Q I rx ry ⟨_, _, rfl, rfl, ?_⟩
    rename_i i j
    have e : decide (j ≤ i) = !decide (i < j) := by
      by_cases h : i < j
      · rw [decide_eq_true h, decide_eq_false (by omega)]; rfl
      · rw [decide_eq_false h, decide_eq_true (by omega)]; rfl
    show Q (V.bl (decide (j ≤ i))) m.H
    rw [e]
    exact o.get (.bl _)
  · split at o
    · rename_i hs
      rw [Bool.and_eq_true] at hs
      obtain ⟨p, xs, rfl, h1, _, r1⟩ := Dr.tup_inv va
      obtain ⟨q, ys, rfl, h2, _, r2⟩ := Dr.tup_inv vb
      rw [r1.allI hs.2] at h1
      rw [r2.allI hs.1] at h2
      cases rx
      cases ry
      exact cmp_tups (g := fun x y => decide (x ≤ y)) (z := fun a b => decide (a ≤ b)) lex_le Ob.RcOp.le_int Ob.RcOp.tuples_le hu I h1 h2 (o.get (.bl _))
    · exact o.elim
  · exact o.elim
theorem c_ge (hu : X.A.units < cLine) : OpR X (compareOp .GtE) (rC X T .ge) := by
  intro pins s σ H x y v u Q I rx ry h
  obtain ⟨m, a, b, rfl, va, vb, o⟩ := h
  replace o : OutD m (((ltVl a b).map not).map PyData.bool) Q := o
  unfold ltVl at o
  split at o
  · cases Dr.int_inv va
    cases Dr.int_inv vb
    refine op_ge pins s σ m.H _ _ v u Q I rx ry ⟨_, _, rfl, rfl, ?_⟩
    rename_i i j
    have e : decide (j ≤ i) = !decide (i < j) := by
      by_cases h : i < j
      · rw [decide_eq_true h, decide_eq_false (by omega)]; rfl
      · rw [decide_eq_false h, decide_eq_true (by omega)]; rfl
    show Q (V.bl (decide (j ≤ i))) m.H
    rw [e]
    exact o.get (.bl _)
  · split at o
    · rename_i hs
      rw [Bool.and_eq_true] at hs
      obtain ⟨p, xs, rfl, h1, _, r1⟩ := Dr.tup_inv va
      obtain ⟨q, ys, rfl, h2, _, r2⟩ := Dr.tup_inv vb
      rw [r1.allI hs.1] at h1
      rw [r2.allI hs.2] at h2
      cases rx
      cases ry
      exact cmp_tups (g := fun x y => decide (y ≤ x)) (z := fun a b => decide (a ≥ b)) lex_ge Ob.RcOp.ge_int Ob.RcOp.tuples_ge hu I h1 h2 (o.get (.bl _))
    · exact o.elim
  · exact o.elim
end
end Itp

set_option Elab.async false
set_option linter.all false
set_option autoImplicit false
set_option maxRecDepth 100000
set_option maxHeartbeats 4000000
/-! in, not in; keys of dicts. -/
namespace Itp
open PySem L2
section
variable {P : Program} {w : World} {T : Ct} {K : PySem.W.Frag} {M : Addr → Prop} {H : Hp}
/-- the data of a key as a key -/
def keyOf : D → Option Key
  | .int i => some (.inl i)
  | .str x => some (.inr x)
  | _ => none
mutual
def nkOf : D → Option NestedKey
  | .int i => some (.num i)
  | .str x => some (.text x)
  | .tuple xs => (nkOfs xs).map .tup
  | _ => none
def nkOfs : List D → Option (List NestedKey)
  | [] => some []
  | x :: r => match nkOf x, nkOfs r with
    | some a, some b => some (a :: b)
    | _, _ => none
end
mutual
theorem nkOf_nD : ∀ (d : D) (k : NestedKey), nkOf d = some k → nD k = d
  | .int i, k, h => by simp [nkOf] at h; subst h; rfl
  | .str x, k, h => by simp [nkOf] at h; subst h; rfl
  | .tuple xs, k, h => by
    simp [nkOf] at h
    obtain ⟨ks, h1, rfl⟩ := h
    show PyData.tuple (nDs ks) = _
    rw [nkOfs_nDs xs ks h1]
  | .none, k, h => by simp [nkOf] at h
  | .bool _, k, h => by simp [nkOf] at h
  | .list _, k, h => by simp [nkOf] at h
  | .dict _, k, h => by simp [nkOf] at h
theorem nkOfs_nDs : ∀ (ds : List D) (ks : List NestedKey), nkOfs ds = some ks → nDs ks = ds
  | [], ks, h => by simp [nkOfs] at h; subst h; rfl
  | x :: r, ks, h => by
    unfold nkOfs at h
    split at h
    · rename_i a b h1 h2
      cases h
      show nD a :: nDs b = _
      rw [nkOf_nD x a h1, nkOfs_nDs r b h2]
    · cases h
end
mutual
theorem okKey_nk : ∀ (d : D), okKey d = true → ∃ k, nkOf d = some k
  | .int i, _ => ⟨_, rfl⟩
  | .str x, _ => ⟨_, rfl⟩
  | .tuple xs, h => by
    obtain ⟨ks, e⟩ := okKeys_nk xs (by simpa [okKey] using h)
    exact ⟨.tup ks, by simp [nkOf, e]⟩
  | .none, h => by simp [okKey] at h
  | .bool _, h => by simp [okKey] at h
  | .list _, h => by simp [okKey] at h
  | .dict _, h => by simp [okKey] at h
theorem okKeys_nk : ∀ (ds : List D), okKey.okKeys ds = true → ∃ ks, nkOfs ds = some ks
  | [], _ => ⟨[], rfl⟩
  | x :: r, h => by
    rw [okKey.okKeys, Bool.and_eq_true] at h
    obtain ⟨a, e1⟩ := okKey_nk x h.1
    obtain ⟨b, e2⟩ := okKeys_nk r h.2
    exact ⟨a :: b, by simp [nkOfs, e1, e2]⟩
end
/-! == of keys is equality -/
mutual
theorem eqv_nD : ∀ (a b : NestedKey), PyData.eqv (nD a) (nD b) = NestedKey.beq a b
  | .none, .none => by simp [nD, PyData.eqv, NestedKey.beq]
  | .none, .num _ => by simp [nD, PyData.eqv, NestedKey.beq]
  | .none, .text _ => by simp [nD, PyData.eqv, NestedKey.beq]
  | .none, .tup _ => by simp [nD, PyData.eqv, NestedKey.beq]
  | .num _, .none => by simp [nD, PyData.eqv, NestedKey.beq]
  | .num i, .num j => by simp [nD, PyData.eqv, NestedKey.beq]; rw [Bool.eq_iff_iff]; simp
  | .num _, .text _ => by simp [nD, PyData.eqv, NestedKey.beq]
  | .num _, .tup _ => by simp [nD, PyData.eqv, NestedKey.beq]
  | .text _, .none => by simp [nD, PyData.eqv, NestedKey.beq]
  | .text _, .num _ => by simp [nD, PyData.eqv, NestedKey.beq]
  | .text x, .text y => by simp [nD, PyData.eqv, NestedKey.beq]; rw [Bool.eq_iff_iff]; simp
  | .text _, .tup _ => by simp [nD, PyData.eqv, NestedKey.beq]
  | .tup _, .none => by simp [nD, PyData.eqv, NestedKey.beq]
  | .tup _, .num _ => by simp [nD, PyData.eqv, NestedKey.beq]
  | .tup _, .text _ => by simp [nD, PyData.eqv, NestedKey.beq]
  | .tup a, .tup b => by simp only [nD, PyData.eqv, NestedKey.beq]; exact eqv_nDs a b
theorem eqv_nDs : ∀ (a b : List NestedKey), PyData.eqvAll (nDs a) (nDs b) = NestedKey.beqAll a b
  | [], [] => by simp [nDs, PyData.eqvAll, NestedKey.beqAll]
  | [], _ :: _ => by simp [nDs, PyData.eqvAll, NestedKey.beqAll]
  | _ :: _, [] => by simp [nDs, PyData.eqvAll, NestedKey.beqAll]
  | a :: as, b :: bs => by simp only [nDs, PyData.eqvAll, NestedKey.beqAll]; rw [eqv_nD a b, eqv_nDs as bs]
end
theorem eqv_kD (a b : Key) : PyData.eqv (kD a) (kD b) = decide (a = b) := by
  cases a <;> cases b <;> simp [kD, PyData.eqv] <;> (rw [Bool.eq_iff_iff]; simp)
theorem keyOf_kD {d : D} {k : Key} (h : keyOf d = some k) : d = kD k := by
  unfold keyOf at h
  split at h
  · cases h; rfl
  · cases h; rfl
  · cases h
/-- looking up -/
theorem look_kD (k : Key) : ∀ (hv : List (Key × V)) (ds : List D) (M : Addr → Prop) (H : Hp), DrAll P w T M H ds (hv.map (·.2)) →
    match lookD ((hv.map fun q => kD q.1).zip ds) (kD k), valV hv k with
    | some d, some v => Dr P w T M H d v
    | none, none => True
    | _, _ => False
  | [], _, M, H, h => by cases h; simp [lookD, valV]
  | (k', v) :: r, _, M, H, .cons (d := d) (ds := ds) a b => by
    have ih := look_kD k r ds M H b
    by_cases e : k' = k
    · subst e
      have e1 : lookD (((k', v) :: r).map (fun q => kD q.1) |>.zip (d :: ds)) (kD k') = some d := by
        simp [lookD, List.find?_cons, eqv_kD]
      have e2 : valV ((k', v) :: r) k' = some v := valV_pos rfl
      rw [e1, e2]
      exact a
    · have e1 : lookD (((k', v) :: r).map (fun q => kD q.1) |>.zip (d :: ds)) (kD k) = lookD ((r.map fun q => kD q.1).zip ds) (kD k) := by
        simp [lookD, List.find?_cons, eqv_kD, e]
      have e2 : valV ((k', v) :: r) k = valV r k := valV_neg e
      rw [e1, e2]
      exact ih
end
end Itp

set_option Elab.async false
set_option linter.all false
set_option autoImplicit false
set_option maxRecDepth 100000
set_option maxHeartbeats 4000000
/-! Dicts: what is read, what is written. -/
namespace Itp
open PySem L2
section
variable {X : Cx} {T : Ct} {pins : List (Addr × Obj)} {σ : St} {s : Shared} {m : Mem X.prog X.w T} {a : Addr} {kvs : List (D × D)}
def DicAt (m : Mem X.prog X.w T) (a : Addr) (kvs : List (D × D)) : Prop :=
  (∃ hv : List (Key × V), Rd m.H a (.dK hv) ∧ DrAll X.prog X.w T m.M m.H (kvs.map (·.2)) (hv.map (·.2)) ∧ kvs.map (·.1) = hv.map fun q => kD q.1) ∨
  ∃ (xs : List (NestedKey × Addr × Value)) (vs : List V), Rd m.H a (NestO X.prog X.w a xs) ∧ DrAll X.prog X.w T m.M m.H (kvs.map (·.1)) (xs.map fun q => V.ref q.2.1) ∧ kvs.map (·.1) = (xs.map fun q => nD q.1) ∧ Vals vs (xs.map (·.2.2)) ∧ DrAll X.prog X.w T m.M m.H (kvs.map (·.2)) vs
theorem rd_ok {H : Hp} {u : HO} (I : L2.Inv X pins σ H s) (h : Rd H a u) : ObjOk X.prog X.w H s.heap a u := by
  rcases h with h | ⟨o, h⟩
  · exact I.hok _ _ h
  · exact (I.hok _ _ h).2
mutual
theorem nk_is (I : L2.Inv X pins σ m.H s) : ∀ (k : NestedKey) (v : V) (u : Value), Dr X.prog X.w T m.M m.H (nD k) v → RelV v u → NestedIs s.heap k u
  | .none, v, u, h, r => by
    cases Dr.non_inv h
    cases r
    exact .none
  | .num i, v, u, h, r => by
    cases Dr.int_inv h
    obtain ⟨t, rfl⟩ := r
    exact .int i t
  | .text x, v, u, h, r => by
    cases Dr.str_inv h
    obtain ⟨t, rfl⟩ := r
    exact .text x t
  | .tup ks, v, u, h, r => by
    obtain ⟨b, xs, rfl, ⟨o, eo, eh⟩, _, ra⟩ := Dr.tup_inv (ds := nDs ks) h
    cases r
    obtain ⟨e, _, its, rv, ht⟩ := I.hok _ _ eh
    obtain ⟨o', e', ec, n, ed⟩ := ht
    rw [e] at e'
    cases e'
    refine .tup e ec ed ?_
    rw [List.toList_toArray]
    exact nks_is I ks xs its ra rv
theorem nks_is (I : L2.Inv X pins σ m.H s) : ∀ (ks : List NestedKey) (vs : List V) (us : List Value), DrAll X.prog X.w T m.M m.H (nDs ks) vs → Vals vs us → NestedAll s.heap ks us
  | [], _, _, h, r => by
    cases h
    cases r
    exact .nil
  | k :: ks, _, _, h, r => by
    cases h with
    | cons a b => cases r with
      | cons c d => exact .cons (nk_is I k _ _ a c) (nks_is I ks _ _ b d)
end
theorem keys_is (I : L2.Inv X pins σ m.H s) : ∀ (xs : List (NestedKey × Addr × Value)), DrAll X.prog X.w T m.M m.H (xs.map fun q => nD q.1) (xs.map fun q => V.ref q.2.1) → ∀ x ∈ xs, NestedIs s.heap x.1 (.ref x.2.1)
  | [], _, x, hx => by cases hx
  | y :: ys, h, x, hx => by
    cases h with
    | cons p q =>
      rcases List.mem_cons.mp hx with rfl | h'
      · exact nk_is I x.1 (.ref x.2.1) (.ref x.2.1) p rfl
      · exact keys_is I ys q x h'
theorem isTup_kD (k : Key) : isTup (kD k) = false := by cases k <;> rfl
theorem isTup_ref {M : Addr → Prop} {H : Hp} {k : NestedKey} {b : Addr} (h : Dr X.prog X.w T M H (nD k) (.ref b)) : isTup (nD k) = true := by
  cases k with
  | none => cases Dr.non_inv h
  | num i => cases Dr.int_inv h
  | text x => cases Dr.str_inv h
  | tup ks => rfl
/-- keys that are no tuples -/
theorem rawK (I : L2.Inv X pins σ m.H s) (h : DicAt m a kvs) (hk : ∀ q ∈ kvs, isTup q.1 = false) : (a == sysModules) = false ∧ ∃ (hv : List (Key × V)) (vs : List (Key × Value)), hv.length ≤ sizeLine ∧ KV hv vs ∧ s.heap.DictOf (mixKind X.prog X.w) a vs ∧
    DrAll X.prog X.w T m.M m.H (kvs.map (·.2)) (hv.map (·.2)) ∧ kvs.map (·.1) = hv.map fun q => kD q.1 := by
  rcases h with ⟨hv, e, r, ek⟩ | ⟨xs, vs, e, rk, ek, rv, r⟩
  · obtain ⟨z, hd, vs, rel, dd⟩ := rd_ok I e
    exact ⟨hd, hv, vs, z, rel, dd, r, ek⟩
  · obtain ⟨⟨o, es, ep, ho, hx, hd, he, hn, hdp, hs, hl⟩, _, _⟩ := rd_ok I e
    cases xs with
    | nil =>
      have e0 : kvs = [] := by cases kvs with
        | nil => rfl
        | cons q r => cases ek
      subst e0
      refine ⟨hs, [], [], Nat.zero_le _, .nil, ⟨o, es, ep, ho, hx, hd, ?_, ?_, List.nodup_nil⟩, .nil, rfl⟩
      · intro x hx'
        have : x ∈ es.toList := Array.mem_toList_iff.mpr hx'
        rw [he] at this
        cases this
      · rw [he]; exact .nil
    | cons x xs =>
      exfalso
      cases kvs with
      | nil => cases ek
      | cons q r =>
        have e1 : q.1 = nD x.1 := by injection ek
        cases rk with
        | cons p _ =>
          have := hk q List.mem_cons_self
          have p' : Dr X.prog X.w T m.M m.H q.1 (.ref x.2.1) := p
          rw [e1] at this p'
          rw [isTup_ref p'] at this
          cases this
/-- keys that are tuples -/
theorem rawN (I : L2.Inv X pins σ m.H s) (h : DicAt m a kvs) (hk : ∀ q ∈ kvs, isTup q.1 = true) : (a == sysModules) = false ∧ ∃ (xs : List (NestedKey × Addr × Value)) (vs : List V), xs.length ≤ sizeLine ∧ s.heap.DictOfH (nestedKind X.prog X.w) a xs ∧ (∀ x ∈ xs, x.1.depth ≤ 8) ∧
    DrAll X.prog X.w T m.M m.H (kvs.map (·.1)) (xs.map fun q => V.ref q.2.1) ∧ kvs.map (·.1) = (xs.map fun q => nD q.1) ∧ Vals vs (xs.map (·.2.2)) ∧ DrAll X.prog X.w T m.M m.H (kvs.map (·.2)) vs := by
  rcases h with ⟨hv, e, r, ek⟩ | ⟨xs, vs, e, rk, ek, rv, r⟩
  · obtain ⟨z, hd, vs, rel, dd⟩ := rd_ok I e
    cases hv with
    | nil =>
      have e0 : kvs = [] := by cases kvs with
        | nil => rfl
        | cons q r => cases ek
      subst e0
      cases rel
      obtain ⟨o, es, ep, ho, hx, hdt, _, hp, _⟩ := dd
      have hes : es.toList = [] := by
        generalize hl : es.toList = l at hp
        cases hp
        rfl
      exact ⟨hd, [], [], Nat.zero_le _, ⟨o, es, ep, ho, hx, hdt, hes, (fun x hx => by cases hx), List.nodup_nil⟩, (fun x hx => by cases hx), .nil, rfl, .nil, .nil⟩
    | cons q hv =>
      exfalso
      cases kvs with
      | nil => cases ek
      | cons q' r' =>
        have e1 : q'.1 = kD q.1 := by injection ek
        have := hk q' List.mem_cons_self
        rw [e1, isTup_kD] at this
        cases this
  · obtain ⟨⟨o, es, ep, ho, hx, hd, he, hn, hdp, hs, hl⟩, _, _⟩ := rd_ok I e
    refine ⟨hs, xs, vs, hl, ⟨o, es, ep, ho, hx, hd, he, fun x hx' => ⟨?_, hdp x hx'⟩, hn⟩, hdp, rk, ek, rv, r⟩
    exact keys_is I xs (by rw [← ek]; exact rk) x hx'
/-! ### keys -/
theorem okK1_nk : ∀ d : D, okK1 d = true → ∃ k, nkOf d = some k ∧ k.depth = 0
  | .int i, _ => ⟨_, rfl, rfl⟩
  | .str i, _ => ⟨_, rfl, rfl⟩
  | .none, h => by cases h
  | .bool _, h => by cases h
  | .list _, h => by cases h
  | .tuple _, h => by cases h
  | .dict _, h => by cases h
theorem oks_nk {p : D → Bool} {n : Nat} (hp : ∀ d, p d = true → ∃ k, nkOf d = some k ∧ k.depth ≤ n) : ∀ ds : List D, ds.all p = true → ∃ ks, nkOfs ds = some ks ∧ NestedKey.depthAll ks ≤ n
  | [], _ => ⟨[], rfl, Nat.zero_le _⟩
  | x :: r, h => by
    rw [List.all_cons, Bool.and_eq_true] at h
    obtain ⟨a, e1, d1⟩ := hp x h.1
    obtain ⟨b, e2, d2⟩ := oks_nk hp r h.2
    exact ⟨a :: b, by simp [nkOfs, e1, e2], by rw [NestedKey.depthAll]; exact Nat.max_le.mpr ⟨d1, d2⟩⟩
theorem okK2_nk : ∀ d : D, okK2 d = true → ∃ k, nkOf d = some k ∧ k.depth ≤ 1
  | .tuple xs, h => by
    obtain ⟨ks, e, hd⟩ := oks_nk (n := 0) (fun d hd => let ⟨k, a, b⟩ := okK1_nk d hd; ⟨k, a, Nat.le_of_eq b⟩) xs h
    exact ⟨.tup ks, by simp [nkOf, e], by rw [NestedKey.depth]; omega⟩
  | .int i, _ => ⟨.num i, rfl, Nat.zero_le _⟩
  | .str i, _ => ⟨.text i, rfl, Nat.zero_le _⟩
  | .none, h => by cases h
  | .bool _, h => by cases h
  | .list _, h => by cases h
  | .dict _, h => by cases h
theorem okK_nk : ∀ d : D, okK d = true → ∃ k, nkOf d = some k ∧ k.depth ≤ 2
  | .tuple xs, h => by
    obtain ⟨ks, e, hd⟩ := oks_nk (n := 1) okK2_nk xs h
    exact ⟨.tup ks, by simp [nkOf, e], by rw [NestedKey.depth]; omega⟩
  | .int i, _ => ⟨.num i, rfl, Nat.zero_le _⟩
  | .str i, _ => ⟨.text i, rfl, Nat.zero_le _⟩
  | .none, h => by cases h
  | .bool _, h => by cases h
  | .list _, h => by cases h
  | .dict _, h => by cases h
theorem key_of_no {k : D} (h : okK k = true) (ht : isTup k = false) : ∃ q : Key, k = kD q := by
  cases k with
  | int i => exact ⟨.inl i, rfl⟩
  | str x => exact ⟨.inr x, rfl⟩
  | tuple xs => cases ht
  | _ => cases h
theorem dr_kD {q : Key} {y : V} (h : Dr X.prog X.w T m.M m.H (kD q) y) : y = kV q := by
  cases q with
  | inl i => exact Dr.int_inv h
  | inr x => exact Dr.str_inv h
/-! ### looking up -/
theorem lookK (k : Key) : ∀ (kvs : List (D × D)) (hv : List (Key × V)), DrAll X.prog X.w T m.M m.H (kvs.map (·.2)) (hv.map (·.2)) → kvs.map (·.1) = hv.map (fun q => kD q.1) →
    (∃ d v, lookD kvs (kD k) = some d ∧ valV hv k = some v ∧ Dr X.prog X.w T m.M m.H d v) ∨ (lookD kvs (kD k) = none ∧ valV hv k = none)
  | [], hv, h, e => by
    cases hv with
    | nil => exact .inr ⟨rfl, rfl⟩
    | cons q r => cases e
  | q :: r, hv, h, e => by
    cases hv with
    | nil => cases e
    | cons p r' =>
      cases h with
      | cons a b =>
        have e1 : q.1 = kD p.1 := by injection e
        have e2 : r.map (·.1) = r'.map (fun q => kD q.1) := by injection e
        by_cases hk : p.1 = k
        · refine .inl ⟨q.2, p.2, ?_, valV_pos hk, a⟩
          simp [lookD, List.find?_cons, e1, eqv_kD, hk]
        · have l1 : lookD (q :: r) (kD k) = lookD r (kD k) := by simp [lookD, List.find?_cons, e1, eqv_kD, hk]
          rw [l1, valV_neg hk]
          exact lookK k r r' b e2
theorem lookN (k : NestedKey) : ∀ (kvs : List (D × D)) (xs : List (NestedKey × Addr × Value)) (vs : List V), kvs.map (·.1) = (xs.map fun q => nD q.1) → Vals vs (xs.map (·.2.2)) → DrAll X.prog X.w T m.M m.H (kvs.map (·.2)) vs →
    (∃ d p v, lookD kvs (nD k) = some d ∧ atKey xs k = some p ∧ RelV v p.2 ∧ Dr X.prog X.w T m.M m.H d v) ∨ (lookD kvs (nD k) = none ∧ atKey xs k = none)
  | [], xs, vs, e, _, h => by
    cases xs with
    | nil => exact .inr ⟨rfl, rfl⟩
    | cons q r => cases e
  | q :: r, xs, vs, e, rv, h => by
    cases xs with
    | nil => cases e
    | cons p r' =>
      cases h with
      | cons a b => cases rv with
        | cons c d =>
          have e1 : q.1 = nD p.1 := by injection e
          have e2 : r.map (·.1) = r'.map (fun q => nD q.1) := by injection e
          by_cases hk : p.1 = k
          · refine .inl ⟨q.2, p.2, _, ?_, ?_, c, a⟩
            · simp [lookD, List.find?_cons, e1, eqv_nD, hk, NestedKey.beq_self]
            · simp [atKey, List.find?_cons, hk]
          · have hb : NestedKey.beq p.1 k = false := by
              rw [Bool.eq_false_iff]
              exact fun z => hk (NestedKey.eq_of_beq _ _ z)
            have l1 : lookD (q :: r) (nD k) = lookD r (nD k) := by simp [lookD, List.find?_cons, e1, eqv_nD, hb]
            have l2 : atKey (p :: r') k = atKey r' k := by simp [atKey, List.find?_cons, hk]
            rw [l1, l2]
            exact lookN k r r' _ e2 d b
section
variable {A : Around} {E : Value → Shared → Prop} {k : D} {y : V} {u : Value}
theorem dKey_ok (hk : dKey kvs k = true) : okK k = true ∧ ∀ q ∈ kvs, isTup q.1 = isTup k := by
  unfold dKey at hk
  rw [Bool.and_eq_true, List.all_eq_true] at hk
  exact ⟨hk.1, fun q hq => by have := hk.2 q hq; simpa using this⟩
/-- k in d -/
theorem dic_in {Q : Value → Shared → Prop} (hu : A.units + 10 < cLine) (I : L2.Inv X pins σ m.H s) (h : DicAt m a kvs) (hk : dKey kvs k = true) (vk : Dr X.prog X.w T m.M m.H k y) (ry : RelV y u)
    (q : ∀ s', L2.Inv X pins σ m.H s' → Q (.bool (lookD kvs k).isSome) s') : wpAny (model X.prog X.w) A (compareOp .In u (.ref a)) Q E s := by
  obtain ⟨ok, kd⟩ := dKey_ok hk
  cases ht : isTup k with
  | false =>
    obtain ⟨hs, hv, vs, hl, rel, dd, r, ek⟩ := rawK I h fun q hq => (kd q hq).trans ht
    obtain ⟨key, rfl⟩ := key_of_no ok ht
    cases dr_kD vk
    have e2 : (valV hv key).isSome = (lookD kvs (kD key)).isSome := by
      rcases lookK key kvs hv r ek with ⟨d, v, a, b, _⟩ | ⟨a, b⟩ <;> rw [a, b] <;> rfl
    refine wpAny_in_of (kV_is ry) hs dd.mapOf ?_
    rw [← (rel.val key).isSome_eq, e2]
    exact q _ (I.tok _)
  | true =>
    obtain ⟨hs, xs, vs, hl, dd, hdp, rk, ek, rv, r⟩ := rawN I h fun q hq => (kd q hq).trans ht
    obtain ⟨nk, hnk, hdep⟩ := okK_nk k ok
    have en := nkOf_nD k nk hnk
    subst en
    have ni := nk_is I nk y u vk ry
    obtain ⟨b, rfl⟩ : ∃ b, u = .ref b := by
      cases nk with
      | tup ks => obtain ⟨b, xs, rfl, _⟩ := Dr.tup_inv (ds := nDs ks) vk; cases ry; exact ⟨b, rfl⟩
      | _ => cases ht
    have hroom : (nestedKind X.prog X.w).room A.in1 := show A.in1.units + 8 < cLine by show A.units + 1 + 8 < cLine; omega
    have hkey : (nestedKind X.prog X.w).is s.heap nk b := ⟨ni, by omega⟩
    have e2 : (atKey xs nk).isSome = (lookD kvs (nD nk)).isSome := by
      rcases lookN nk kvs xs vs ek rv r with ⟨d, p, v, a, b, _⟩ | ⟨a, b⟩ <;> rw [a, b] <;> rfl
    refine wpAny_in_heap hroom hkey hs dd ?_
    rw [e2]
    exact q _ (I.tok _)
theorem dic_notIn {Q : Value → Shared → Prop} (hu : A.units + 10 < cLine) (I : L2.Inv X pins σ m.H s) (h : DicAt m a kvs) (hk : dKey kvs k = true) (vk : Dr X.prog X.w T m.M m.H k y) (ry : RelV y u)
    (q : ∀ s', L2.Inv X pins σ m.H s' → Q (.bool (!(lookD kvs k).isSome)) s') : wpAny (model X.prog X.w) A (compareOp .NotIn u (.ref a)) Q E s := by
  obtain ⟨ok, kd⟩ := dKey_ok hk
  cases ht : isTup k with
  | false =>
    obtain ⟨hs, hv, vs, hl, rel, dd, r, ek⟩ := rawK I h fun q hq => (kd q hq).trans ht
    obtain ⟨key, rfl⟩ := key_of_no ok ht
    cases dr_kD vk
    have e2 : (valV hv key).isSome = (lookD kvs (kD key)).isSome := by
      rcases lookK key kvs hv r ek with ⟨d, v, a, b, _⟩ | ⟨a, b⟩ <;> rw [a, b] <;> rfl
    refine wpAny_notIn_of (kV_is ry) hs dd.mapOf ?_
    rw [← (rel.val key).isSome_eq, e2]
    exact q _ (I.tok _)
  | true =>
    obtain ⟨hs, xs, vs, hl, dd, hdp, rk, ek, rv, r⟩ := rawN I h fun q hq => (kd q hq).trans ht
    obtain ⟨nk, hnk, hdep⟩ := okK_nk k ok
    have en := nkOf_nD k nk hnk
    subst en
    have ni := nk_is I nk y u vk ry
    obtain ⟨b, rfl⟩ : ∃ b, u = .ref b := by
      cases nk with
      | tup ks => obtain ⟨b, xs, rfl, _⟩ := Dr.tup_inv (ds := nDs ks) vk; cases ry; exact ⟨b, rfl⟩
      | _ => cases ht
    have hroom : (nestedKind X.prog X.w).room A.in1 := show A.in1.units + 8 < cLine by show A.units + 1 + 8 < cLine; omega
    have hkey : (nestedKind X.prog X.w).is s.heap nk b := ⟨ni, by omega⟩
    have e2 : (atKey xs nk).isSome = (lookD kvs (nD nk)).isSome := by
      rcases lookN nk kvs xs vs ek rv r with ⟨d, p, v, a, b, _⟩ | ⟨a, b⟩ <;> rw [a, b] <;> rfl
    refine notIn_keyed hroom hkey hs ⟨xs, dd, rfl⟩ ?_
    rw [valueAt_pairsH, Option.isSome_map, e2]
    exact q _ (I.tok _)
/-- d[k] -/
theorem dic_get {Q : Value → Shared → Prop} {d : D} (hd : lookD kvs k = some d) (hu : A.units + 10 < cLine) (I : L2.Inv X pins σ m.H s) (h : DicAt m a kvs) (hk : dKey kvs k = true) (vk : Dr X.prog X.w T m.M m.H k y) (ry : RelV y u)
    (q : ∀ v w' s', L2.Inv X pins σ m.H s' → RelV v w' → Dr X.prog X.w T m.M m.H d v → Q w' s') : s.TypeIs (.ref a) "dict" ∧ wpAny (model X.prog X.w) A (getItem (.ref a) u) Q E s := by
  obtain ⟨ok, kd⟩ := dKey_ok hk
  cases ht : isTup k with
  | false =>
    obtain ⟨hs, hv, vs, hl, rel, dd, r, ek⟩ := rawK I h fun q hq => (kd q hq).trans ht
    obtain ⟨key, rfl⟩ := key_of_no ok ht
    cases dr_kD vk
    refine ⟨dd.typeIs, ?_⟩
    rcases lookK key kvs hv r ek with ⟨d', v, e1, e2, e3⟩ | ⟨e1, e2⟩
    · rw [hd] at e1
      cases e1
      obtain ⟨w', hw, rw'⟩ := RelO.some_of (v := v) (o := valueAt vs key) (by rw [← e2]; exact rel.val key)
      exact wpAny_getItem_of (kV_is ry) dd.mapOf hw (q v w' _ (I.tok _) rw' e3)
    · rw [hd] at e1; cases e1
  | true =>
    obtain ⟨hs, xs, vs, hl, dd, hdp, rk, ek, rv, r⟩ := rawN I h fun q hq => (kd q hq).trans ht
    obtain ⟨nk, hnk, hdep⟩ := okK_nk k ok
    have en := nkOf_nD k nk hnk
    subst en
    have ni := nk_is I nk y u vk ry
    obtain ⟨b, rfl⟩ : ∃ b, u = .ref b := by
      cases nk with
      | tup ks => obtain ⟨b, xs, rfl, _⟩ := Dr.tup_inv (ds := nDs ks) vk; cases ry; exact ⟨b, rfl⟩
      | _ => cases ht
    have hroom : (nestedKind X.prog X.w).room A.in1 := show A.in1.units + 8 < cLine by show A.units + 1 + 8 < cLine; omega
    have hkey : (nestedKind X.prog X.w).is s.heap nk b := ⟨ni, by omega⟩
    refine ⟨dd.typeIs, ?_⟩
    rcases lookN nk kvs xs vs ek rv r with ⟨d', p, v, e1, e2, e3, e4⟩ | ⟨e1, e2⟩
    · rw [hd] at e1
      cases e1
      exact wpAny_getItem_heap hroom hkey dd e2 (q v p.2 _ (I.tok _) e3 e4)
    · rw [hd] at e1; cases e1
/-- d.get(k, z) -/
theorem dic_getOr {Q : Value → Shared → Prop} {z : D} {zv : V} {zu : Value} (hu : A.units + 10 < cLine) (I : L2.Inv X pins σ m.H s) (h : DicAt m a kvs) (hk : dKey kvs k = true) (vk : Dr X.prog X.w T m.M m.H k y) (ry : RelV y u) (vz : Dr X.prog X.w T m.M m.H z zv) (rz : RelV zv zu)
    (q : ∀ v w' s', L2.Inv X pins σ m.H s' → RelV v w' → Dr X.prog X.w T m.M m.H ((lookD kvs k).getD z) v → Q w' s') : wpAny (model X.prog X.w) A (call (.builtin "dict.get") [.ref a, u, zu]) Q E s := by
  obtain ⟨ok, kd⟩ := dKey_ok hk
  cases ht : isTup k with
  | false =>
    obtain ⟨hs, hv, vs, hl, rel, dd, r, ek⟩ := rawK I h fun q hq => (kd q hq).trans ht
    obtain ⟨key, rfl⟩ := key_of_no ok ht
    cases dr_kD vk
    refine call_meetsIn PySem.F.slot_dict_get dd.typeIs PySem.F.entry_dict_get (PySem.F.args_dict_get_3 _ _ _) (meets_dict_get_default (mixKind X.prog X.w) a (kV_is ry) hs zu) ⟨_, dd.mapOf, ?_⟩
    rcases lookK key kvs hv r ek with ⟨d', v, e1, e2, e3⟩ | ⟨e1, e2⟩
    · obtain ⟨w', hw, rw'⟩ := RelO.some_of (v := v) (o := valueAt vs key) (by rw [← e2]; exact rel.val key)
      rw [hw]
      exact q v w' _ (I.tok _) rw' (by rw [e1]; exact e3)
    · have hn : valueAt vs key = none := by
        have := (rel.val key).isSome_eq
        rw [e2] at this
        cases hh : valueAt vs key with
        | none => rfl
        | some _ => rw [hh] at this; cases this
      rw [hn]
      exact q zv zu _ (I.tok _) rz (by rw [e1]; exact vz)
  | true =>
    obtain ⟨hs, xs, vs, hl, dd, hdp, rk, ek, rv, r⟩ := rawN I h fun q hq => (kd q hq).trans ht
    obtain ⟨nk, hnk, hdep⟩ := okK_nk k ok
    have en := nkOf_nD k nk hnk
    subst en
    have ni := nk_is I nk y u vk ry
    obtain ⟨b, rfl⟩ : ∃ b, u = .ref b := by
      cases nk with
      | tup ks => obtain ⟨b, xs, rfl, _⟩ := Dr.tup_inv (ds := nDs ks) vk; cases ry; exact ⟨b, rfl⟩
      | _ => cases ht
    have hroom : (nestedKind X.prog X.w).room A.in1 := show A.in1.units + 8 < cLine by show A.units + 1 + 8 < cLine; omega
    have hkey : (nestedKind X.prog X.w).is s.heap nk b := ⟨ni, by omega⟩
    refine call_meetsIn PySem.F.slot_dict_get dd.typeIs PySem.F.entry_dict_get (PySem.F.args_dict_get_3 _ _ _) (meetsH_dict_get_default (nestedKind X.prog X.w) a b hs zu) ⟨hroom, nk, xs, hkey, dd, ?_⟩
    rcases lookN nk kvs xs vs ek rv r with ⟨d', p, v, e1, e2, e3, e4⟩ | ⟨e1, e2⟩
    · rw [e2]
      exact q v p.2 _ (I.tok _) e3 (by rw [e1]; exact e4)
    · rw [e2]
      exact q zv zu _ (I.tok _) rz (by rw [e1]; exact vz)
/-! ### writing -/
theorem anyK (k : Key) : ∀ (kvs : List (D × D)) (hv : List (Key × V)), kvs.map (·.1) = hv.map (fun q => kD q.1) → (kvs.any fun q => PyData.eqv q.1 (kD k)) = hv.any fun kv => decide (kv.1 = k)
  | [], [], _ => rfl
  | [], _ :: _, e => by cases e
  | _ :: _, [], e => by cases e
  | q :: kvs, p :: hv, e => by
    have e1 : q.1 = kD p.1 := by injection e
    have e2 : kvs.map (·.1) = hv.map (fun q => kD q.1) := by injection e
    rw [List.any_cons, List.any_cons, anyK k kvs hv e2, e1, eqv_kD]
theorem replK (k : Key) {d : D} {v : V} (hdv : Dr X.prog X.w T m.M m.H d v) : ∀ (kvs : List (D × D)) (hv : List (Key × V)), DrAll X.prog X.w T m.M m.H (kvs.map (·.2)) (hv.map (·.2)) → kvs.map (·.1) = hv.map (fun q => kD q.1) →
    DrAll X.prog X.w T m.M m.H ((kvs.map fun q => if PyData.eqv q.1 (kD k) = true then (q.1, d) else q).map (·.2)) ((hv.map fun kv => if kv.1 = k then (kv.1, v) else kv).map (·.2)) ∧ ((kvs.map fun q => if PyData.eqv q.1 (kD k) = true then (q.1, d) else q).map (·.1)) = ((hv.map fun kv => if kv.1 = k then (kv.1, v) else kv).map fun q => kD q.1)
  | [], [], _, _ => ⟨.nil, rfl⟩
  | [], _ :: _, _, e => by cases e
  | _ :: _, [], _, e => by cases e
  | q :: kvs, p :: hv, .cons r1 r2, e => by
    have e1 : q.1 = kD p.1 := by injection e
    have e2 : kvs.map (·.1) = hv.map (fun q => kD q.1) := by injection e
    obtain ⟨i1, i2⟩ := replK k hdv kvs hv r2 e2
    rw [List.map_cons, List.map_cons, List.map_cons, List.map_cons, List.map_cons, List.map_cons, i2, e1, eqv_kD]
    by_cases hp : p.1 = k
    · simp only [hp, decide_true, if_true]
      exact ⟨.cons hdv i1, by first | rfl | trivial⟩
    · simp only [hp, decide_false, Bool.false_eq_true, if_false]
      exact ⟨.cons r1 i1, by rw [e1]⟩
theorem putD_K (k : Key) {d : D} {v : V} (hdv : Dr X.prog X.w T m.M m.H d v) {kvs : List (D × D)} {hv : List (Key × V)} (r : DrAll X.prog X.w T m.M m.H (kvs.map (·.2)) (hv.map (·.2))) (ek : kvs.map (·.1) = hv.map (fun q => kD q.1)) :
    DrAll X.prog X.w T m.M m.H ((putD kvs (kD k) d).map (·.2)) ((putK hv k v).map (·.2)) ∧ (putD kvs (kD k) d).map (·.1) = (putK hv k v).map (fun q => kD q.1) := by
  unfold putD putK
  rw [anyK k kvs hv ek]
  split
  · exact replK k hdv kvs hv r ek
  · rw [List.map_append, List.map_append, List.map_append, List.map_append, ek]
    exact ⟨DrAll.append r (.cons hdv .nil), rfl⟩
theorem anyN (k : NestedKey) : ∀ (kvs : List (D × D)) (xs : List (NestedKey × Addr × Value)), kvs.map (·.1) = (xs.map fun q => nD q.1) → (kvs.any fun q => PyData.eqv q.1 (nD k)) = (atKey xs k).isSome
  | [], [], _ => rfl
  | [], _ :: _, e => by cases e
  | _ :: _, [], e => by cases e
  | q :: kvs, p :: xs, e => by
    have e1 : q.1 = nD p.1 := by injection e
    have e2 : kvs.map (·.1) = xs.map (fun q => nD q.1) := by injection e
    rw [List.any_cons, anyN k kvs xs e2, e1, eqv_nD, ← NestedKey.decide_eq]
    by_cases hp : p.1 = k
    · simp [atKey, List.find?_cons, hp]
    · simp [atKey, List.find?_cons, hp]
theorem replN (k : NestedKey) {d : D} {v : V} {u : Value} (hdv : Dr X.prog X.w T m.M m.H d v) (ru : RelV v u) : ∀ (kvs : List (D × D)) (xs : List (NestedKey × Addr × Value)) (vs : List V), kvs.map (·.1) = (xs.map fun q => nD q.1) → Vals vs (xs.map (·.2.2)) → DrAll X.prog X.w T m.M m.H (kvs.map (·.2)) vs →
    ∃ vs', ((kvs.map fun q => if PyData.eqv q.1 (nD k) = true then (q.1, d) else q).map (·.1)) = ((xs.map (putAt k u)).map fun q => nD q.1) ∧ Vals vs' ((xs.map (putAt k u)).map (·.2.2)) ∧ DrAll X.prog X.w T m.M m.H ((kvs.map fun q => if PyData.eqv q.1 (nD k) = true then (q.1, d) else q).map (·.2)) vs' ∧
      (xs.map (putAt k u)).map (fun q => V.ref q.2.1) = xs.map (fun q => V.ref q.2.1) ∧ (xs.map (putAt k u)).map (·.1) = xs.map (·.1)
  | [], [], _, _, .nil, _ => ⟨[], rfl, .nil, .nil, rfl, rfl⟩
  | [], _ :: _, _, e, _, _ => by cases e
  | _ :: _, [], _, e, _, _ => by cases e
  | q :: kvs, p :: xs, v0 :: vs0, e, .cons c1 c2, .cons r1 r2 => by
    have e1 : q.1 = nD p.1 := by injection e
    have e2 : kvs.map (·.1) = xs.map (fun q => nD q.1) := by injection e
    obtain ⟨vs', i1, i2, i3, i4, i5⟩ := replN k hdv ru kvs xs _ e2 c2 r2
    by_cases hp : p.1 = k
    · have hq : PyData.eqv q.1 (nD k) = true := by rw [e1, eqv_nD, hp, NestedKey.beq_self]
      have hpa : putAt k u p = (p.1, p.2.1, u) := by unfold putAt; rw [if_pos hp]
      refine ⟨v :: vs', ?_, ?_, ?_, ?_, ?_⟩
      · simp only [List.map_cons, hq, if_true, hpa] at i1 ⊢; rw [i1, e1]
      · simp only [List.map_cons, hpa]; exact .cons ru i2
      · simp only [List.map_cons, hq, if_true]; exact .cons hdv i3
      · simp only [List.map_cons, hpa]; rw [i4]
      · simp only [List.map_cons, hpa]; rw [i5]
    · have hq : PyData.eqv q.1 (nD k) = false := by rw [e1, eqv_nD, ← NestedKey.decide_eq]; simp [hp]
      have hpa : putAt k u p = p := by unfold putAt; rw [if_neg hp]
      refine ⟨v0 :: vs', ?_, ?_, ?_, ?_, ?_⟩
      · simp only [List.map_cons, hq, Bool.false_eq_true, if_false, hpa] at i1 ⊢; rw [i1, e1]
      · simp only [List.map_cons, hpa]; exact .cons c1 i2
      · simp only [List.map_cons, hq, Bool.false_eq_true, if_false]; exact .cons r1 i3
      · simp only [List.map_cons, hpa]; rw [i4]
      · simp only [List.map_cons, hpa]; rw [i5]
theorem putD_N (k : NestedKey) {d : D} {v : V} {b : Addr} {u : Value} (hkb : Dr X.prog X.w T m.M m.H (nD k) (.ref b)) (hdv : Dr X.prog X.w T m.M m.H d v) (ru : RelV v u) {kvs : List (D × D)} {xs : List (NestedKey × Addr × Value)} {vs : List V} (rk : DrAll X.prog X.w T m.M m.H (kvs.map (·.1)) (xs.map fun q => V.ref q.2.1)) (ek : kvs.map (·.1) = (xs.map fun q => nD q.1)) (rv : Vals vs (xs.map (·.2.2))) (r : DrAll X.prog X.w T m.M m.H (kvs.map (·.2)) vs) :
    ∃ vs', DrAll X.prog X.w T m.M m.H ((putD kvs (nD k) d).map (·.1)) ((storedH xs k b u).map fun q => V.ref q.2.1) ∧ (putD kvs (nD k) d).map (·.1) = ((storedH xs k b u).map fun q => nD q.1) ∧ Vals vs' ((storedH xs k b u).map (·.2.2)) ∧ DrAll X.prog X.w T m.M m.H ((putD kvs (nD k) d).map (·.2)) vs' := by
  unfold putD storedH
  rw [anyN k kvs xs ek]
  split
  · obtain ⟨vs', i1, i2, i3, i4, i5⟩ := replN k hdv ru kvs xs vs ek rv r
    refine ⟨vs', ?_, i1, i2, i3⟩
    rw [i4]
    have : (kvs.map fun q => if PyData.eqv q.1 (nD k) = true then (q.1, d) else q).map (·.1) = kvs.map (·.1) := by
      rw [List.map_map]
      apply List.map_congr_left
      intro q _
      show (if PyData.eqv q.1 (nD k) = true then (q.1, d) else q).1 = q.1
      split <;> rfl
    rw [this]
    exact rk
  · refine ⟨vs ++ [v], ?_, ?_, ?_, ?_⟩
    · rw [List.map_append, List.map_append]; exact DrAll.append rk (.cons hkb .nil)
    · rw [List.map_append, List.map_append, ek]; rfl
    · rw [List.map_append]; exact rv.append (.cons ru .nil)
    · rw [List.map_append]; exact DrAll.append r (.cons hdv .nil)
/-- what stands there behind a write -/
def DicO (m : Mem X.prog X.w T) (a : Addr) (kvs : List (D × D)) (ob : HO) : Prop :=
  (∃ hv : List (Key × V), ob = .dK hv ∧ DrAll X.prog X.w T m.M m.H (kvs.map (·.2)) (hv.map (·.2)) ∧ kvs.map (·.1) = hv.map fun q => kD q.1) ∨
  ∃ (xs : List (NestedKey × Addr × Value)) (vs : List V), ob = NestO X.prog X.w a xs ∧ DrAll X.prog X.w T m.M m.H (kvs.map (·.1)) (xs.map fun q => V.ref q.2.1) ∧ kvs.map (·.1) = (xs.map fun q => nD q.1) ∧ Vals vs (xs.map (·.2.2)) ∧ DrAll X.prog X.w T m.M m.H (kvs.map (·.2)) vs
theorem nest_ok {H' : Hp} {h' : Heap} {xs : List (NestedKey × Addr × Value)} (dd : h'.DictOfH (nestedKind X.prog X.w) a xs) (hdp : ∀ x ∈ xs, x.1.depth ≤ 8) (hs : (a == sysModules) = false) (hl : xs.length ≤ sizeLine) : ObjOk X.prog X.w H' h' a (NestO X.prog X.w a xs) := by
  obtain ⟨o, es, ep, ho, hx, hd, he, _, hn⟩ := dd
  refine ⟨⟨o, es, ep, ho, hx, hd, he, hn, hdp, hs, hl⟩, ⟨o, ho⟩, ?_⟩
  rintro h1 h2 ⟨o, es, ep, ho, r⟩ k
  exact ⟨o, es, ep, k o ho, r⟩
theorem stored_len {xs : List (NestedKey × Addr × Value)} {k : NestedKey} {b : Addr} {u : Value} : (storedH xs k b u).length ≤ xs.length + 1 := by
  unfold storedH
  split <;> simp
theorem stored_deep {xs : List (NestedKey × Addr × Value)} {k : NestedKey} {b : Addr} {u : Value} (h : ∀ x ∈ xs, x.1.depth ≤ 8) (hk : k.depth ≤ 8) : ∀ x ∈ storedH xs k b u, x.1.depth ≤ 8 := by
  intro x hx
  unfold storedH at hx
  split at hx
  · obtain ⟨y, hy, rfl⟩ := List.mem_map.mp hx
    have : (putAt k u y).1 = y.1 := by unfold putAt; split <;> rfl
    rw [this]
    exact h y hy
  · rcases List.mem_append.mp hx with h' | h'
    · exact h x h'
    · simp at h'; subst h'; exact hk
/-- d[k] = v -/
theorem dic_set {Q : Unit → Shared → Prop} {d : D} {v : V} {r0 : Value} (mu : Mut (m.H a)) (hu : A.units + 10 < cLine) (I : L2.Inv X pins σ m.H s) (h : DicAt m a kvs) (hk : dKey kvs k = true) (vk : Dr X.prog X.w T m.M m.H k y) (ry : RelV y u) (vd : Dr X.prog X.w T m.M m.H d v) (rd : RelV v r0) (hsz : kvs.length ≤ 99999)
    (q : ∀ ob s', DicO m a (putD kvs k d) ob → L2.Inv X pins σ (upd m.H a ob) s' → Q () s') : wpAny (model X.prog X.w) A (setItem (.ref a) u r0) Q E s := by
  have hline : 100000 ≤ sizeLine := by decide
  obtain ⟨ok, kd⟩ := dKey_ok hk
  cases ht : isTup k with
  | false =>
    obtain ⟨hs, hv, vs, hl, rel, dd, r, ek⟩ := rawK I h fun q hq => (kd q hq).trans ht
    obtain ⟨key, rfl⟩ := key_of_no ok ht
    cases dr_kD vk
    have hlen : hv.length = kvs.length := by have := congrArg List.length ek; simpa using this.symm
    have hlp : (putK hv key v).length ≤ sizeLine := by have := length_putK hv key v; omega
    have hz : vs.length ≤ sizeLine := by rw [← rel.length]; exact hl
    refine wpAny_setItem_pairs (hsz := hz) (kV_is ry) dd fun h' dd' hsm => q (.dK (putK hv key v)) _ ?_ ?_
    · obtain ⟨p1, p2⟩ := putD_K key vd r ek
      exact .inl ⟨_, rfl, p1, p2⟩
    · have he : ∃ q, h'.get? a = some q := let ⟨q, _, _, hq, _⟩ := dd'; ⟨q, hq⟩
      exact d_write I mu hsm he (dk_new hlp hs (rel.put key rd) dd')
  | true =>
    obtain ⟨hs, xs, vs, hl, dd, hdp, rk, ek, rv, r⟩ := rawN I h fun q hq => (kd q hq).trans ht
    obtain ⟨nk, hnk, hdep⟩ := okK_nk k ok
    have en := nkOf_nD k nk hnk
    subst en
    have ni := nk_is I nk y u vk ry
    obtain ⟨b, rfl, eb⟩ : ∃ b, u = .ref b ∧ y = .ref b := by
      cases nk with
      | tup ks => obtain ⟨b, xs, rfl, _⟩ := Dr.tup_inv (ds := nDs ks) vk; cases ry; exact ⟨b, rfl, rfl⟩
      | _ => cases ht
    subst eb
    have hroom : (nestedKind X.prog X.w).room A.in1 := show A.in1.units + 8 < cLine by show A.units + 1 + 8 < cLine; omega
    have hkey : (nestedKind X.prog X.w).is s.heap nk b := ⟨ni, by omega⟩
    have hlen : xs.length = kvs.length := by have := congrArg List.length ek; simpa using this.symm
    refine wpAny_setItem_heap (hsz := hl) hroom hkey dd fun h' dd' hsm => q (NestO X.prog X.w a (storedH xs nk b r0)) _ ?_ ?_
    · obtain ⟨vs', p1, p2, p3, p4⟩ := putD_N nk vk vd rd rk ek rv r
      exact .inr ⟨_, vs', rfl, p1, p2, p3, p4⟩
    · have he : ∃ q, h'.get? a = some q := let ⟨q, _, _, hq, _⟩ := dd'; ⟨q, hq⟩
      have hl2 := stored_len (xs := xs) (k := nk) (b := b) (u := r0)
      exact d_write I mu hsm he (nest_ok dd' (stored_deep hdp (by omega)) hs (by omega))
end
theorem zip_fst {κ : Type} : ∀ (l : List κ) (ds : List D) (f : κ → D), l.length = ds.length → ((l.map f).zip ds).map (·.1) = l.map f
  | [], ds, f, h => by cases ds <;> rfl
  | x :: r, [], f, h => by simp at h
  | x :: r, d :: ds, f, h => by
    rw [List.map_cons, List.zip_cons_cons, List.map_cons, zip_fst r ds f (by simpa using h)]
theorem zip_snd {κ : Type} : ∀ (l : List κ) (ds : List D) (f : κ → D), l.length = ds.length → ((l.map f).zip ds).map (·.2) = ds
  | [], ds, f, h => by cases ds with
    | nil => rfl
    | cons d ds => simp at h
  | x :: r, [], f, h => by simp at h
  | x :: r, d :: ds, f, h => by
    rw [List.map_cons, List.zip_cons_cons, List.map_cons, zip_snd r ds f (by simpa using h)]
theorem dic_of {v : Vl} {x : V} (h : VR X.K m v x) (e : dicOf m.S v = some kvs) : ∃ a, x = .ref a ∧ DicAt m a kvs := by
  unfold dicOf at e
  split at e
  · rename_i kvs'
    split at e
    · rename_i hn
      cases e
      replace h : Dr X.prog X.w T m.M m.H (.dict kvs) x := h
      generalize hd : PyData.dict kvs = d0 at h
      cases h with
      | non => cases hd
      | bl => cases hd
      | int => cases hd
      | str => cases hd
      | lst => cases hd
      | tup => cases hd
      | ins _ _ _ _ q =>
        subst hd
        unfold mkIns at q
        injection q with q
        rw [q] at hn
        cases hn
      | dK h1 n1 r1 q =>
        subst hd
        injection q with q
        rename_i a o hv ds
        have hl : hv.length = ds.length := by have := r1.length; simpa using this.symm
        refine ⟨a, rfl, .inl ⟨hv, .inr ⟨o, h1⟩, ?_, ?_⟩⟩
        · rw [q, zip_snd hv ds (fun q => kD q.1) hl]; exact r1
        · rw [q, zip_fst hv ds (fun q => kD q.1) hl]
      | dN h1 n1 b1 rv r1 q =>
        subst hd
        injection q with q
        rename_i a o xs vs ds
        have hl : xs.length = ds.length := by
          have e1 := r1.length
          have e2 := rv.length
          rw [List.length_map] at e2
          omega
        refine ⟨a, rfl, .inr ⟨xs, vs, .inr ⟨o, h1⟩, ?_, ?_, rv, ?_⟩⟩
        · rw [q, zip_fst xs ds (fun q => nD q.1) hl]; exact b1
        · rw [q, zip_fst xs ds (fun q => nD q.1) hl]
        · rw [q, zip_snd xs ds (fun q => nD q.1) hl]; exact r1
    · cases e
  · rename_i n
    split at e
    · rename_i kvs' hS
      cases e
      obtain ⟨p, hp, rfl⟩ := h
      refine ⟨p.1, rfl, ?_⟩
      rcases m.obj n p _ hp hS with ⟨hv, h1, h2, h3⟩ | ⟨xs, vs, h1, h2, h3, h4, h5⟩
      · exact .inl ⟨hv, .inl h1, h2, h3⟩
      · exact .inr ⟨xs, vs, .inl h1, h2, h3, h4, h5⟩
    · cases e
  · cases e
/-! ### the keys in their order -/
theorem pairs_vals {P : Program} {w : World} {l : List DictEntry} {vs : List (Key × Value)} (h : Pairs (mixKind P w) l vs) : ∀ (hv : List (Key × V)), KV hv vs → Vals (hv.map fun q => kV q.1) (l.map (·.key)) := by
  induction h with
  | nil =>
    intro hv r
    cases r
    exact .nil
  | cons h1 h2 h3 ih =>
    intro hv r
    cases r with
    | cons r1 r2 =>
      refine .cons ?_ (ih _ r2)
      show RelV (kV _) _
      rw [r1.1]
      exact relV_key h1
theorem dr_kV {P : Program} {w : World} {T : Ct} {M : Addr → Prop} {H : Hp} (k : Key) : Dr P w T M H (kD k) (kV k) := by
  cases k with
  | inl i => exact .int i
  | inr x => exact .str x
theorem dr_kVs {P : Program} {w : World} {T : Ct} {M : Addr → Prop} {H : Hp} : ∀ hv : List (Key × V), DrAll P w T M H (hv.map fun q => kD q.1) (hv.map fun q => kV q.1)
  | [] => .nil
  | q :: r => .cons (dr_kV q.1) (dr_kVs r)
theorem keys_entries {P : Program} {w : World} : ∀ xs : List (NestedKey × Addr × Value), Vals (xs.map fun q => V.ref q.2.1) ((xs.map (entryOfKey (nestedKind P w))).map (·.key))
  | [] => .nil
  | _ :: r => .cons rfl (keys_entries r)
theorem dic_keys (I : L2.Inv X pins σ m.H s) (h : DicAt m a kvs) : (a == sysModules) = false ∧ ∃ (o : Obj) (es : Array DictEntry) (ep : Nat) (ks : List V), s.heap.get? a = some o ∧ o.ExactDict ∧ o.data = .dict es ep ∧ es.size ≤ sizeLine ∧ Vals ks (es.toList.map (·.key)) ∧ DrAll X.prog X.w T m.M m.H (kvs.map (·.1)) ks := by
  rcases h with ⟨hv, e, r, ek⟩ | ⟨xs, vs, e, rk, ek, rv, r⟩
  · obtain ⟨z, hd, vs, rel, o, es, ep, ho, hx, hdt, _, hp, _⟩ := rd_ok I e
    have pv := pairs_vals hp _ rel
    refine ⟨hd, o, es, ep, _, ho, hx, hdt, ?_, pv, by rw [ek]; exact dr_kVs hv⟩
    have hlen : (hv.map fun q => kV q.1).length = (es.toList.map (·.key)).length := pv.length
    simp at hlen
    omega
  · obtain ⟨⟨o, es, ep, ho, hx, hd, he, hn, hdp, hs, hl⟩, _, _⟩ := rd_ok I e
    refine ⟨hs, o, es, ep, xs.map fun q => V.ref q.2.1, ho, hx, hd, ?_, by rw [he]; exact keys_entries xs, rk⟩
    have := size_of_entries he
    omega
end
end Itp

set_option Elab.async false
set_option linter.all false
set_option autoImplicit false
set_option maxRecDepth 100000
set_option maxHeartbeats 4000000
/-! in, subscripts, slices, len, tuple, list. -/
namespace Itp
open PySem L2
section
variable {X : Cx} {T : Ct}
theorem room_in {A : Around} {d : D} {xs : List D} (h : SeqAt.shaped d = true) (hu : A.units + 65 < cLine) : A.units + 1 + min (PyData.depthAll xs) d.depth < cLine := by
  have h1 := SeqAt.depth_of_shaped h
  have h2 : min (PyData.depthAll xs) d.depth ≤ d.depth := Nat.min_le_right _ _
  omega
theorem lay_list {xs : List D} (h : SeqAt.shaped (.list xs) = true) : PyData.canLayAll0 xs = true := by simpa [PyData.canLay0] using SeqAt.canLay_of_shaped h
theorem lay_tup {xs : List D} (h : SeqAt.shaped (.list xs) = true) : (PyData.tuple xs).canLay0 = true := by simpa [PyData.canLay0] using SeqAt.canLay_of_shaped h
theorem c_in (hu : X.A.units + 65 < cLine) : OpR X (compareOp .In) (rC X T .isIn) := by
  intro pins s σ H x y v u Q I rx ry h
  obtain ⟨m, a, b, rfl, va, vb, o⟩ := h
  replace o : OutD m ((isIn m.S a b).map PyData.bool) Q := o
  unfold isIn at o
  split at o
  · unfold inSeq at o
    split at o
    · rename_i hs
      rw [Bool.and_eq_true] at hs
      obtain ⟨as, r1⟩ := Dp.reads I _ x v (Dr.dp _ _ va (SeqAt.canLay_of_shaped hs.1)) rx
      obtain ⟨bs, r2⟩ := Dp.reads I _ y u (Dr.dp _ _ vb (lay_tup hs.2)) ry
      exact SeqAt.in_tuple_reads r2 r1 (lay_list hs.2) (SeqAt.canLay_of_shaped hs.1) (room_in hs.1 hu) ⟨.bl _, m.H, I, rfl, o.get (.bl _)⟩
    · exact o.elim
  · split at o
    · rename_i xs e
      unfold inSeq at o
      split at o
      · rename_i hs
        rw [Bool.and_eq_true] at hs
        obtain ⟨b', ys, rfl, h1, h2⟩ := lst_of vb e
        obtain ⟨as, r1⟩ := Dp.reads I _ x v (Dr.dp _ _ va (SeqAt.canLay_of_shaped hs.1)) rx
        obtain ⟨bs, r2⟩ := Dp.reads I (.list xs) _ u (.lst (SqL.of h1) (DrAll.dp _ _ h2 (lay_list hs.2))) ry
        exact SeqAt.in_list_reads r2 r1 (lay_list hs.2) (SeqAt.canLay_of_shaped hs.1) (room_in hs.1 hu) ⟨.bl _, m.H, I, rfl, o.get (.bl _)⟩
      · exact o.elim
    · unfold inDic at o
      split at o
      · rename_i kvs e
        split at o
        · rename_i hk
          obtain ⟨p, rfl, da⟩ := dic_of vb e
          cases ry
          exact dic_in (by omega) I da hk va rx fun s' I' => ⟨.bl _, m.H, I', rfl, o.get (.bl _)⟩
        · exact o.elim
      · exact o.elim
  · exact o.elim
theorem c_notIn (hu : X.A.units + 65 < cLine) : OpR X (compareOp .NotIn) (rC X T .notIn) := by
  intro pins s σ H x y v u Q I rx ry h
  obtain ⟨m, a, b, rfl, va, vb, o⟩ := h
  replace o : OutD m (((isIn m.S a b).map not).map PyData.bool) Q := o
  unfold isIn at o
  split at o
  · unfold inSeq at o
    split at o
    · rename_i hs
      rw [Bool.and_eq_true] at hs
      obtain ⟨as, r1⟩ := Dp.reads I _ x v (Dr.dp _ _ va (SeqAt.canLay_of_shaped hs.1)) rx
      obtain ⟨bs, r2⟩ := Dp.reads I _ y u (Dr.dp _ _ vb (lay_tup hs.2)) ry
      exact SeqAt.notIn_tuple_reads r2 r1 (lay_list hs.2) (SeqAt.canLay_of_shaped hs.1) (room_in hs.1 hu) ⟨.bl _, m.H, I, rfl, o.get (.bl _)⟩
    · exact o.elim
  · split at o
    · rename_i xs e
      unfold inSeq at o
      split at o
      · rename_i hs
        rw [Bool.and_eq_true] at hs
        obtain ⟨b', ys, rfl, h1, h2⟩ := lst_of vb e
        obtain ⟨as, r1⟩ := Dp.reads I _ x v (Dr.dp _ _ va (SeqAt.canLay_of_shaped hs.1)) rx
        obtain ⟨bs, r2⟩ := Dp.reads I (.list xs) _ u (.lst (SqL.of h1) (DrAll.dp _ _ h2 (lay_list hs.2))) ry
        exact SeqAt.notIn_list_reads r2 r1 (lay_list hs.2) (SeqAt.canLay_of_shaped hs.1) (room_in hs.1 hu) ⟨.bl _, m.H, I, rfl, o.get (.bl _)⟩
      · exact o.elim
    · unfold inDic at o
      split at o
      · rename_i kvs e
        split at o
        · rename_i hk
          obtain ⟨p, rfl, da⟩ := dic_of vb e
          cases ry
          exact dic_notIn (by omega) I da hk va rx fun s' I' => ⟨.bl _, m.H, I', rfl, o.get (.bl _)⟩
        · exact o.elim
      · exact o.elim
  · exact o.elim
theorem atI_dr {P : Program} {w : World} {M : Addr → Prop} {H : Hp} {ds : List D} {vs : List V} {i : Int} {d : D} (h : DrAll P w T M H ds vs) (e : atI ds i = some d) : ∃ v, atI vs i = some v ∧ Dr P w T M H d v := by
  unfold atI at e ⊢
  rw [← h.length]
  cases hi : ixN ds.length i with
  | none => rw [hi] at e; cases e
  | some j =>
    rw [hi] at e
    obtain ⟨v, h1, h2⟩ := h.get (show ds[j]? = some d from e)
    exact ⟨v, h1, h2⟩
/-- a[i] -/
theorem x_sub (hu : X.A.units + 65 < cLine) : IxR X (rD2 X.prog X.w T X.K subD) := by
  intro value slice pins s σ H x y v u Q I rx ry h hsub
  obtain ⟨m, a, b, rfl, va, vb, o⟩ := h
  unfold subD at o
  split at o
  · rename_i ds i
    cases Dr.int_inv vb
    obtain ⟨p, xs, rfl, h1, _, r1⟩ := Dr.tup_inv va
    cases e : atI ds i with
    | none => rw [e] at o; exact o.elim
    | some d =>
      rw [e] at o
      obtain ⟨z, e1, r2⟩ := atI_dr r1 e
      exact ix_tup value slice pins s σ m.H _ _ v u Q I rx ry ⟨p, xs, i, z, rfl, rfl, sqT h1, e1, o.get r2⟩ hsub
  · rename_i t i
    cases Dr.int_inv vb
    cases Dr.str_inv va
    split at o
    · rename_i hl
      cases e : atI t.cps.toList i with
      | none => rw [e] at o; exact o.elim
      | some c =>
        rw [e] at o
        exact ix_str value slice pins s σ m.H _ _ v u Q I rx ry ⟨t, i, c, rfl, rfl, inLine_sz hl, e, o.get (.str _)⟩ hsub
    · exact o.elim
  · rename_i k _ _
    split at o
    · rename_i ds e0
      unfold atK at o
      split at o
      · rename_i i _ _
        cases Dr.int_inv vb
        obtain ⟨p, xs, rfl, h1, r1⟩ := lst_of va e0
        cases e : atI ds i with
        | none => rw [e] at o; exact o.elim
        | some d =>
          rw [e] at o
          obtain ⟨z, e1, r2⟩ := atI_dr r1 e
          exact ix_list value slice pins s σ m.H _ _ v u Q I rx ry ⟨p, xs, i, z, rfl, rfl, SqL.of h1, e1, o.get r2⟩ hsub
      · exact o.elim
    · unfold getDic at o
      split at o
      · rename_i kvs e
        split at o
        · rename_i hk
          obtain ⟨p, rfl, da⟩ := dic_of va e
          cases rx
          cases hd : lookD kvs k with
          | none => rw [hd] at o; exact o.elim
          | some d =>
            rw [hd] at o
            have g := fun (Q' : Value → Shared → Prop) (E' : Value → Shared → Prop) (q : ∀ v w' s', L2.Inv X pins σ m.H s' → RelV v w' → Dr X.prog X.w T m.M m.H d v → Q' w' s') => dic_get (A := X.A) (E := E') hd (by omega) I da hk vb ry q
            exact PyProof.Rows.tail_any (g (fun _ _ => True) (fun _ _ => True) fun _ _ _ _ _ _ => trivial).1 PySem.F.slot_dict_getitem.lookup (g _ _ fun z w' s' I' rw' dz => ⟨z, m.H, I', rw', o.get dz⟩).2 hsub
        · exact o.elim
      · exact o.elim
  · exact o.elim
theorem cut_dr {P : Program} {w : World} {M : Addr → Prop} {H : Hp} {ds : List D} {vs : List V} (h : DrAll P w T M H ds vs) (lo hi : Option Int) : DrAll P w T M H (cutL ds lo hi) (cutV vs lo hi) := by
  unfold cutL cutV
  rw [← h.length]
  exact (h.drop _).take _
/-- a[lo:hi] -/
theorem x_slc : SlR X (fun x lo hi H Q => rD1 X.prog X.w T X.K (fun S v => slcD S lo hi v) x H Q) := by
  intro pins s σ H x v vl vu lo hi sl Q I rx hs pl pu h
  obtain ⟨m, a, rfl, va, o⟩ := h
  replace o : OutD m (slcD m.S lo hi a) Q := o
  unfold slcD at o
  split at o
  · obtain ⟨p, xs, rfl, h1, n1, r1⟩ := Dr.tup_inv va
    cases rx
    obtain ⟨its, rv, ht, hz⟩ := I.tuple (sqT h1)
    have hlen : its.toArray.size = xs.length := by rw [List.size_toArray]; exact rv.length.symm
    refine ⟨"tuple", _, PyProof.Rows.slot_tuple_getitem.lookup, ht.typeIs, ?_⟩
    have cr := cut_dr r1 lo hi
    by_cases hw : HT.sIx xs.length 0 lo = 0 ∧ HT.sIx xs.length xs.length hi = xs.length
    · refine getItem_tuple_whole ht hs pl pu (by rw [hlen]; exact hw) ⟨.ref p, m.H, I, rfl, o.get ?_⟩
      unfold cutV at cr
      rw [hw.1, hw.2] at cr
      obtain ⟨ob, eo, eh⟩ := h1
      exact .tup eh eo n1 (by simpa using cr)
    · refine HT.getItem_tuple_cut ht hs pl pu (by rw [hlen]; exact hw) ?_ (by rw [hlen]; exact hz)
      have rc : Vals (cutV xs lo hi) ((its.drop (HT.sIx its.toArray.size 0 lo)).take (HT.sIx its.toArray.size its.toArray.size hi - HT.sIx its.toArray.size 0 lo)) := by
        unfold cutV
        rw [hlen]
        exact (rv.drop _).take _
      exact ep_tup (t := s.toks) I o cr rc (Nat.le_trans (cutV_length xs lo hi) hz)
  · rename_i t
    cases Dr.str_inv va
    split at o
    · rename_i hl
      exact sl_str pins s σ m.H _ v vl vu lo hi sl Q I rx hs pl pu ⟨t, rfl, inLine_sz hl, o.get (.str _)⟩
    · exact o.elim
  · cases e : asLst m.S a with
    | none => rw [e] at o; exact o.elim
    | some ds =>
      rw [e] at o
      obtain ⟨p, xs, rfl, h1, r1⟩ := lst_of va e
      exact sl_list pins s σ m.H _ v vl vu lo hi sl Q I rx hs pl pu ⟨p, xs, rfl, SqL.of h1, o.new (dr_newL (cut_dr r1 lo hi))⟩
end
end Itp

set_option Elab.async false
set_option linter.all false
set_option autoImplicit false
set_option maxRecDepth 100000
set_option maxHeartbeats 4000000
/-! Built-in calls. -/
namespace Itp
open PySem L2
def f1 (g : Sto → Vl → Option D) : Sto → List Vl → Option D := fun S as => match as with
  | [a] => g S a
  | _ => none
def f2 (g : Sto → Vl → Vl → Option D) : Sto → List Vl → Option D := fun S as => match as with
  | [a, b] => g S a b
  | _ => none
section
variable {P : Program} {w : World} {T : Ct} {K : PySem.W.Frag} {m : Mem P w T} {Q : VK}
theorem f1_out {g : Sto → Vl → Option D} {as : List Vl} {xs : List V} (v : VRs K m as xs) (o : OutD m (f1 g m.S as) Q) : ∃ a x, xs = [x] ∧ VR K m a x ∧ OutD m (g m.S a) Q := by
  unfold f1 at o
  split at o
  · cases v with
    | cons h r => cases r; exact ⟨_, _, rfl, h, o⟩
  · exact o.elim
theorem f2_out {g : Sto → Vl → Vl → Option D} {as : List Vl} {xs : List V} (v : VRs K m as xs) (o : OutD m (f2 g m.S as) Q) : ∃ a b x y, xs = [x, y] ∧ VR K m a x ∧ VR K m b y ∧ OutD m (g m.S a b) Q := by
  unfold f2 at o
  split at o
  · cases v with
    | cons h r =>
      cases r with
      | cons h' r' => cases r'; exact ⟨_, _, _, _, rfl, h, h', o⟩
  · exact o.elim
end
section
variable {X : Cx} {T : Ct}
abbrev rB1 (X : Cx) (T : Ct) (b : B1) : List V → Hp → VK → Prop := rDs X.prog X.w T X.K (f1 fun S => b1D S b)
abbrev rB2 (X : Cx) (T : Ct) (b : B2) : List V → Hp → VK → Prop := rDs X.prog X.w T X.K (f2 fun _ => b2D b)
theorem k_len : CallR X (.builtin "len") (rB1 X T .len) := by
  intro pins s σ H xs us Q I r h
  obtain ⟨m, as, rfl, vs, o⟩ := h
  obtain ⟨a, x, rfl, va, o⟩ := f1_out vs o
  replace o : OutD m (lenD m.S a) Q := o
  unfold lenD at o
  split at o
  · cases Dr.str_inv va
    split at o
    · rename_i hl
      exact call_len pins s σ m.H _ us Q I r ⟨_, _, rfl, ⟨inLine_sz hl, rfl⟩, o.get (.int _)⟩
    · exact o.elim
  · split at o
    · rename_i ds e
      obtain ⟨p, xs, rfl, h1, r1⟩ := seq_of va e
      rw [r1.length] at o
      exact call_len_seq pins s σ m.H _ us Q I r ⟨p, xs, rfl, h1.elim (fun h => .inl (SqL.of h)) (fun h => .inr (sqT h)), o.get (.int _)⟩
    · cases e : dicOf m.S a with
      | none => rw [e] at o; exact o.elim
      | some kvs =>
        rw [e] at o
        obtain ⟨p, rfl, da⟩ := dic_of va e
        obtain ⟨u, rfl, rx⟩ := vals1 r
        cases rx
        have hline : sizeLine = 16777216 := sizeLine_eq
        rcases da with ⟨hv, e1, r1, ek⟩ | ⟨xs, vs, e1, rk, ek, rv, r1⟩
        · obtain ⟨z, hd, vs, rel, dd⟩ := rd_ok I e1
          have hl : kvs.length = vs.length := by
            have e2 := congrArg List.length ek
            rw [List.length_map, List.length_map] at e2
            rw [e2, rel.length]
          refine call_len_dict hd dd (by rw [← rel.length]; omega) ?_
          rw [← hl]
          exact ⟨.int _, m.H, I.tok _, ⟨_, rfl⟩, o.get (.int _)⟩
        · obtain ⟨⟨ob, es, ep, ho, hx, hd, he, hn, hdp, hs, hl⟩, _, _⟩ := rd_ok I e1
          have hl2 : kvs.length = xs.length := by
            have e2 := congrArg List.length ek
            rw [List.length_map, List.length_map] at e2
            exact e2
          rw [ek] at rk
          refine call_len_dictH (knd := nestedKind X.prog X.w) (xs := xs) hs ⟨ob, es, ep, ho, hx, hd, he, fun x hx' => ⟨keys_is I xs rk x hx', hdp x hx'⟩, hn⟩ (by omega) ?_
          rw [← hl2]
          exact ⟨.int _, m.H, I.tok _, ⟨_, rfl⟩, o.get (.int _)⟩
theorem k_tuple : CallR X (.type "tuple") (rB1 X T .tuple) := by
  intro pins s σ H xs us Q I r h
  obtain ⟨m, as, rfl, vs, o⟩ := h
  obtain ⟨a, x, rfl, va, o⟩ := f1_out vs o
  replace o : OutD m ((seqOf m.S a).map .tuple) Q := o
  unfold seqOf at o
  split at o
  · obtain ⟨p, xs, rfl, h1, n1, r1⟩ := Dr.tup_inv va
    exact call_tuple_of pins s σ m.H _ us Q I r ⟨p, xs, rfl, .inr ⟨sqT h1, o.get va⟩⟩
  · cases e : asLst m.S a with
    | none => rw [e] at o; exact o.elim
    | some ds =>
      rw [e] at o
      obtain ⟨p, xs, rfl, h1, r1⟩ := lst_of va e
      obtain ⟨u, rfl, rx⟩ := vals1 r
      cases rx
      obtain ⟨its, r', pl, hz⟩ := I.list (SqL.of h1)
      have hlen := r'.length
      refine call_tuple_list pl.isList (fun h' kp => ?_) (by simp only [List.size_toArray] <;> omega)
      have I1 : L2.Inv X pins σ m.H { s with heap := h' } := I.kept (t' := s.toks) kp
      exact ep_tup (t := s.toks) I1 o r1 r' hz
theorem k_list (hc : X.calm = true) : CallR X (.type "list") (rB1 X T .list) := by
  intro pins s σ H xs us Q I r h
  obtain ⟨m, as, rfl, vs, o⟩ := h
  obtain ⟨a, x, rfl, va, o⟩ := f1_out vs o
  replace o : OutD m ((keysD m.S a).map .list) Q := o
  unfold keysD at o
  cases e : seqOf m.S a with
  | some ds =>
    rw [e] at o
    obtain ⟨p, xs, rfl, h1, r1⟩ := seq_of va e
    exact call_list_of pins s σ m.H _ us Q I r ⟨p, xs, rfl, h1.elim (fun h => .inl (SqL.of h)) (fun h => .inr (sqT h)), o.new (dr_newL r1)⟩
  | none =>
    rw [e] at o
    cases e2 : dicOf m.S a with
    | none => rw [e2] at o; exact o.elim
    | some kvs =>
      rw [e2] at o
      obtain ⟨p, rfl, da⟩ := dic_of va e2
      obtain ⟨u, rfl, rx⟩ := vals1 r
      cases rx
      obtain ⟨hs, ob, es, ep, ks, ho, hx, hdt, hz, rv, rk⟩ := dic_keys I da
      refine PySem.W.kdl_call (kdl_raw hs hx hdt) (I.ok.hd hc) ho hz fun h' tk acc' c' kp e it => ?_
      have ea : acc'.toList = es.toList.map (·.key) := by
        have hl : acc'.toList.length = es.size := by rw [Array.length_toList, it.1]
        apply List.ext_getElem?
        intro j
        rw [List.getElem?_map]
        cases hj : acc'.toList[j]? with
        | none =>
          have h1 := List.getElem?_eq_none_iff.mp hj
          rw [List.getElem?_eq_none (by rw [Array.length_toList]; omega)]
          rfl
        | some v =>
          obtain ⟨en, hen, hv⟩ := it.2 j v (by rw [← Array.getElem?_toList]; exact hj)
          rw [Array.getElem?_toList, hen, hv]
          rfl
      have rv' : Vals ks acc'.toList := by rw [ea]; exact rv
      have hl : ks.length ≤ sizeLine := by
        have hlen : ks.length = (es.toList.map (·.key)).length := rv.length
        simp at hlen
        omega
      refine ⟨.ref s.heap.objs.size, _, I.laid (t' := tk) (o := .lst ks) kp (Nat.le_refl _) ⟨hl, acc'.toList, c', rv', by rw [Array.toArray_toList]; exact e⟩, rfl, ?_⟩
      exact OutD.new (d := .list (kvs.map (·.1))) o (dr_newL rk) _ (I.hok.fresh (Nat.le_refl _))
theorem sumI_eq : ∀ ds : List D, allInts ds = true → sumI ds = (intsOf ds).sum
  | [], _ => rfl
  | .int i :: r, h => by
    have := sumI_eq r (by simpa [allInts] using h)
    simp [sumI, intsOf, this]
  | .none :: _, h => by simp [allInts] at h
  | .bool _ :: _, h => by simp [allInts] at h
  | .str _ :: _, h => by simp [allInts] at h
  | .list _ :: _, h => by simp [allInts] at h
  | .tuple _ :: _, h => by simp [allInts] at h
  | .dict _ :: _, h => by simp [allInts] at h
theorem k_int : CallR X (.type "int") (rB1 X T .int) := by
  intro pins s σ H xs us Q I r h
  obtain ⟨m, as, rfl, vs, o⟩ := h
  obtain ⟨a, x, rfl, va, o⟩ := f1_out vs o
  replace o : OutD m (intD a) Q := o
  unfold intD at o
  split at o
  · cases Dr.int_inv va
    exact call_int1 pins s σ m.H _ us Q I r (.inl ⟨_, rfl, o.get (.int _)⟩)
  · cases Dr.bl_inv va
    exact call_int1 pins s σ m.H _ us Q I r (.inr ⟨_, rfl, o.get (.int _)⟩)
  · exact o.elim
theorem k_max2 (hc : X.calm = true) : CallR X (.builtin "max") (rB2 X T .max) := by
  intro pins s σ H xs us Q I r h
  obtain ⟨m, as, rfl, vs, o⟩ := h
  obtain ⟨a, b, x, y, rfl, va, vb, o⟩ := f2_out vs o
  replace o : OutD m (b2D .max a b) Q := o
  unfold b2D at o
  split at o
  · cases Dr.int_inv va
    cases Dr.int_inv vb
    exact call_max2 hc pins s σ m.H _ us Q I r ⟨_, _, rfl, o.get (.int _)⟩
  · rename_i q; cases q
  · exact o.elim
theorem k_min2 (hc : X.calm = true) : CallR X (.builtin "min") (rB2 X T .min) := by
  intro pins s σ H xs us Q I r h
  obtain ⟨m, as, rfl, vs, o⟩ := h
  obtain ⟨a, b, x, y, rfl, va, vb, o⟩ := f2_out vs o
  replace o : OutD m (b2D .min a b) Q := o
  unfold b2D at o
  split at o
  · rename_i q; cases q
  · cases Dr.int_inv va
    cases Dr.int_inv vb
    exact call_min2 hc pins s σ m.H _ us Q I r ⟨_, _, rfl, o.get (.int _)⟩
  · exact o.elim
/-! ### isinstance -/
structure ClsF (K : PySem.W.Frag) (C : Addr) : Prop where
  cl : Cls K C
  ha : PySem.W.findIn K (.ref C) "__class__" = some (some (.builtin "object.__class__"))
  hn : PySem.W.specialIn K (.builtin "object.__class__") "__get__" = some (some (.builtin "getset_descriptor.__get__"))
  htk : PySem.W.takesIn K (.builtin "object.__class__") = some true
  hm : PySem.W.mroIn K C (.type "object") = some true
  no : ∀ t ∈ ["NoneType", "bool", "int", "str", "list", "tuple"], PySem.W.kitOne K (.type t) (.ref C) = some false
  to : ∀ t ∈ ["bool", "int", "str", "list", "tuple"], PySem.W.kitOne K (.ref C) (.type t) = some false
def Ty.nm : Ty → String
  | .int => "int" | .bool => "bool" | .tuple => "tuple" | .str => "str" | .list => "list" | .cls _ => ""
/-- the class that isinstance is asked for -/
def Ty.is (T : Ct) (K : PySem.W.Frag) : Ty → V → Value → Prop
  | .cls c, x, u => x = .ref (T.ca c) ∧ u = .ref (T.ca c) ∧ ClsF K (T.ca c)
  | t, x, u => x = .ty t.nm ∧ u = .type t.nm
theorem Dr.ty_of {P : Program} {w : World} {K : PySem.W.Frag} {M : Addr → Prop} {H : Hp} {d : D} {v : V} (h : Dr P w T M H d v) : match d with
    | .none => TyX K H v (.type "NoneType")
    | .bool _ => TyX K H v (.type "bool")
    | .int _ => TyX K H v (.type "int")
    | .str _ => TyX K H v (.type "str")
    | .list _ => TyX K H v (.type "list")
    | .tuple _ => TyX K H v (.type "tuple")
    | .dict _ => True := by
  cases h with
  | non => exact .base .non
  | bl b => exact .base (.bl b)
  | int i => exact .base (.int i)
  | str x => exact .base (.str x)
  | lst h _ _ => exact .base (.lst h)
  | tup h _ _ _ => exact .fTuple h
  | ins _ _ _ _ q => subst q; exact trivial
  | dK _ _ _ q => subst q; exact trivial
  | dN _ _ _ _ _ q => subst q; exact trivial
theorem kitA {K : PySem.W.Frag} {b : String} (h : b ∈ ["bool", "int", "str", "list", "tuple"]) : PySem.W.kitOne K (.type "NoneType") (.type b) = some false ∧ PySem.W.kitOne K (.type "bool") (.type b) = some (b == "bool" || b == "int") ∧ PySem.W.kitOne K (.type "int") (.type b) = some (b == "int") ∧
    PySem.W.kitOne K (.type "str") (.type b) = some (b == "str") ∧ PySem.W.kitOne K (.type "list") (.type b) = some (b == "list") ∧ PySem.W.kitOne K (.type "tuple") (.type b) = some (b == "tuple") := by
  simp only [List.mem_cons, List.not_mem_nil, or_false] at h
  rcases h with rfl | rfl | rfl | rfl | rfl <;> exact ⟨kit_ty (by decide +kernel), kit_ty (by decide +kernel), kit_ty (by decide +kernel), kit_ty (by decide +kernel), kit_ty (by decide +kernel), kit_ty (by decide +kernel)⟩
theorem k_isi_ty {pins : List (Addr × Obj)} {s : Shared} {σ : St} {H : Hp} {x : V} {b : String} {us : List Value} {Q : VK} {t : Value} {r : Bool} (I : L2.Inv X pins σ H s) (rs : Vals [x, .ty b] us) (ty : TyX X.K H x t) (k : PySem.W.kitOne X.K t (.type b) = some r) (q : Q (.bl r) H) :
    wpAny (model X.prog X.w) X.A (call (.builtin "isinstance") us) (EP X pins σ Q) X.xe s :=
  call_isi pins s σ H _ us Q I rs ⟨x, .ty b, t, .type b, r, rfl, .ty b, ty, k, q⟩
theorem k_isi {ty : Ty} : CallR X (.builtin "isinstance") (fun xs H Q => ∃ (x c : V) (u : Value) (m : Mem X.prog X.w T) (a : Vl), xs = [x, c] ∧ ty.is T X.K c u ∧ m.H = H ∧ VR X.K m a x ∧ OutD m ((isiD ty a).map PyData.bool) Q) := by
  intro pins s σ H xs us Q I r h
  obtain ⟨x, c, u, m, a, rfl, hc, rfl, va, o⟩ := h
  unfold isiD at o
  split at o
  · rename_i c' rest
    cases va with
    | ins h1 n1 e1 r1 q1 =>
      rename_i aa dx cc fs ds
      unfold mkIns at q1
      injection q1 with q1
      injection q1 with q1 q2
      injection q1 with _ q1
      injection q1 with q1
      subst q1
      cases ty with
      | cls c0 =>
        obtain ⟨rfl, rfl, F⟩ := hc
        unfold tyC at o
        simp only at o
        split at o
        · rename_i hcc
          have hcc := of_decide_eq_true hcc
          have : cc = c0 := by omega
          subst this
          exact call_isi pins s σ m.H _ us Q I r ⟨_, .ref (T.ca cc), .ref (T.ca cc), .ref (T.ca cc), true, rfl, .own _, .base (.ins h1 F.cl F.ha F.hn F.htk F.hm), by simp [PySem.W.kitOne], o.get (.bl _)⟩
        · exact o.elim
      | int => exact (o : False).elim
      | bool => exact (o : False).elim
      | str => exact (o : False).elim
      | tuple => exact (o : False).elim
      | list => exact (o : False).elim
    | dK h1 n1 r1 q1 =>
      rename_i aa kvs ds
      exfalso
      cases kvs with
      | nil => simp at q1
      | cons q r =>
        cases ds with
        | nil => simp at q1
        | cons d ds =>
          obtain ⟨k, v⟩ := q
          cases k <;> simp [kD] at q1
    | dN h1 n1 b1 v1 r1 q1 =>
      rename_i aa xs vs ds
      exfalso
      cases xs with
      | nil => simp at q1
      | cons q r =>
        cases ds with
        | nil => simp at q1
        | cons d ds =>
          simp at q1
          cases b1 with
          | cons hh tt =>
            have hh' : Dr X.prog X.w T m.M m.H PyData.none (V.ref q.2.1) := by
              rw [q1.1.1]
              exact hh
            cases Dr.non_inv hh'
  · rename_i z hz
    have td := Dr.ty_of (K := X.K) va
    cases ty with
    | cls c0 =>
      obtain ⟨rfl, rfl, F⟩ := hc
      have ok : ∀ n ∈ ["NoneType", "bool", "int", "str", "list", "tuple"], TyX X.K m.H x (.type n) → OutD m (some (PyData.bool false)) Q → wpAny (model X.prog X.w) X.A (call (.builtin "isinstance") us) (EP X pins σ Q) X.xe s := fun n hn t o =>
        call_isi pins s σ m.H _ us Q I r ⟨x, .ref (T.ca c0), .type n, .ref (T.ca c0), false, rfl, .own _, t, F.no n hn, o.get (.bl _)⟩
      cases z with
      | none => exact ok "NoneType" (by simp) td o
      | bool b => exact ok "bool" (by simp) td o
      | int b => exact ok "int" (by simp) td o
      | str b => exact ok "str" (by simp) td o
      | list b => exact ok "list" (by simp) td o
      | tuple b => exact ok "tuple" (by simp) td o
      | dict b => exact (o : False).elim
    | int =>
      obtain ⟨rfl, rfl⟩ := hc
      obtain ⟨k1, k2, k3, k4, k5, k6⟩ := kitA (K := X.K) (b := "int") (by simp)
      cases z with
      | none => exact k_isi_ty I r td k1 (o.get (.bl _))
      | bool b => exact k_isi_ty I r td k2 (o.get (.bl _))
      | int b => exact k_isi_ty I r td k3 (o.get (.bl _))
      | str b => exact k_isi_ty I r td k4 (o.get (.bl _))
      | list b => exact k_isi_ty I r td k5 (o.get (.bl _))
      | tuple b => exact k_isi_ty I r td k6 (o.get (.bl _))
      | dict b => exact (o : False).elim
    | bool =>
      obtain ⟨rfl, rfl⟩ := hc
      obtain ⟨k1, k2, k3, k4, k5, k6⟩ := kitA (K := X.K) (b := "bool") (by simp)
      cases z with
      | none => exact k_isi_ty I r td k1 (o.get (.bl _))
      | bool b => exact k_isi_ty I r td k2 (o.get (.bl _))
      | int b => exact k_isi_ty I r td k3 (o.get (.bl _))
      | str b => exact k_isi_ty I r td k4 (o.get (.bl _))
      | list b => exact k_isi_ty I r td k5 (o.get (.bl _))
      | tuple b => exact k_isi_ty I r td k6 (o.get (.bl _))
      | dict b => exact (o : False).elim
    | str =>
      obtain ⟨rfl, rfl⟩ := hc
      obtain ⟨k1, k2, k3, k4, k5, k6⟩ := kitA (K := X.K) (b := "str") (by simp)
      cases z with
      | none => exact k_isi_ty I r td k1 (o.get (.bl _))
      | bool b => exact k_isi_ty I r td k2 (o.get (.bl _))
      | int b => exact k_isi_ty I r td k3 (o.get (.bl _))
      | str b => exact k_isi_ty I r td k4 (o.get (.bl _))
      | list b => exact k_isi_ty I r td k5 (o.get (.bl _))
      | tuple b => exact k_isi_ty I r td k6 (o.get (.bl _))
      | dict b => exact (o : False).elim
    | tuple =>
      obtain ⟨rfl, rfl⟩ := hc
      obtain ⟨k1, k2, k3, k4, k5, k6⟩ := kitA (K := X.K) (b := "tuple") (by simp)
      cases z with
      | none => exact k_isi_ty I r td k1 (o.get (.bl _))
      | bool b => exact k_isi_ty I r td k2 (o.get (.bl _))
      | int b => exact k_isi_ty I r td k3 (o.get (.bl _))
      | str b => exact k_isi_ty I r td k4 (o.get (.bl _))
      | list b => exact k_isi_ty I r td k5 (o.get (.bl _))
      | tuple b => exact k_isi_ty I r td k6 (o.get (.bl _))
      | dict b => exact (o : False).elim
    | list =>
      obtain ⟨rfl, rfl⟩ := hc
      obtain ⟨k1, k2, k3, k4, k5, k6⟩ := kitA (K := X.K) (b := "list") (by simp)
      cases z with
      | none => exact k_isi_ty I r td k1 (o.get (.bl _))
      | bool b => exact k_isi_ty I r td k2 (o.get (.bl _))
      | int b => exact k_isi_ty I r td k3 (o.get (.bl _))
      | str b => exact k_isi_ty I r td k4 (o.get (.bl _))
      | list b => exact k_isi_ty I r td k5 (o.get (.bl _))
      | tuple b => exact k_isi_ty I r td k6 (o.get (.bl _))
      | dict b => exact (o : False).elim
  · exact o.elim
end
end Itp

set_option Elab.async false
set_option linter.all false
set_option autoImplicit false
set_option maxRecDepth 100000
set_option maxHeartbeats 4000000
/-! Methods of built-in types. -/
namespace Itp
open PySem L2
def tBMg (ty : V → Hp → Prop) (r : V → List V → Hp → VK → Prop) (to : TE) (t : TA) : TE := fun σ H Q => to σ H fun x H1 => ty x H1 ∧ t σ H1 fun xs H2 => r x xs H2 Q
section
variable {X : Cx} {o e : Expr} {es : List Expr} {to : TE} {t : TA} {name : Str} {apos cpos : Pos} {N id : String} {r : V → List V → Hp → VK → Prop} {ty : V → Hp → Prop}
def TyP (X : Cx) (N : String) (ty : V → Hp → Prop) : Prop := ∀ (pins : List (Addr × Obj)) (s : Shared) (σ : St) (H : Hp) (x : V) (v : Value), L2.Inv X pins σ H s → RelV x v → ty x H → s.TypeIs v N ∧ ∀ a, v = .ref a → ∃ ob, s.heap.get? a = some ob ∧ ob.dict = none
theorem pe_bmG0 (hT : TyP X N ty) (pa : PlainAttrs N) (slot : Slot N name id) (hty : typeOf (.builtin id) = pure (.type "method_descriptor")) (hm : MtR X id r) (ho : PE X o to)
    (hbase : attributeBase o name X.env (eval o X.env) = eval o X.env) (hline : (apos.endLine == cpos.line) = true) : PE X (.Call (.Attribute o name apos) [] [] cpos) (tBMg ty r to tNil) := by
  refine ⟨fun pins s σ H Q I h => ?_⟩
  refine wpAny_Call_method0_late hbase hline (thn (ho.run pins s σ H _ I h) fun v s1 ⟨x, H1, I1, r1, ty, q1⟩ => ?_)
  obtain ⟨h1, h2⟩ := hT _ _ _ _ _ _ I1 r1 ty
  exact ⟨N, id, pa, slot, hty, h1, h2, Calls.callWith_builtin rfl (PySem.evalArgs_none (hm pins s1 σ H1 x [] v [] Q I1 r1 .nil q1))⟩
theorem pe_bmG (hT : TyP X N ty) (pa : PlainAttrs N) (slot : Slot N name id) (hty : typeOf (.builtin id) = pure (.type "method_descriptor")) (hm : MtR X id r) (ho : PE X o to) (ha : PA X (e :: es) t)
    (hbase : attributeBase o name X.env (eval o X.env) = eval o X.env)
    (hfew : ((backTo cpos (starEach (e :: es) X.env)).all (fun x => !x.1) && (backToKw cpos (keywordEach [] X.env)).all (fun x => x.1.isSome)
      && decide ((e :: es).length + ([] : List Keyword).length + (if ([] : List Keyword).isEmpty then 0 else 1) < 30)) = true)
    (hline : (apos.endLine == cpos.line) = true) (hs : starEach (e :: es) X.env = (false, eval e X.env) :: starEach es X.env) (hplain : (backTo cpos (starEach es X.env)).any (·.1) = false) :
    PE X (.Call (.Attribute o name apos) (e :: es) [] cpos) (tBMg ty r to t) := by
  refine ⟨fun pins s σ H Q I h => ?_⟩
  refine wpAny_Call_method_late hbase hfew hline rfl (thn (ho.run pins s σ H _ I h) fun v s1 ⟨x, H1, I1, r1, ty, q1⟩ => ?_)
  obtain ⟨h1, h2⟩ := hT _ _ _ _ _ _ I1 r1 ty
  refine ⟨N, id, pa, slot, hty, h1, h2, ?_⟩
  have hA := ha.run cpos pins s1 σ H1 _ I1 q1
  rw [hs] at hA ⊢
  refine Calls.callWith_builtin (by show (false || (backTo cpos (starEach es X.env)).any (·.1)) = false; rw [hplain] <;> rfl) (Calls.evalArgs_plain ?_)
  exact thn hA fun us s2 ⟨vs, H2, I2, r2, q2⟩ => hm pins s2 σ H2 x vs v us Q I2 r1 r2 q2
end
section
variable {P : Program} {w : World} {T : Ct} {K : PySem.W.Frag}
theorem Mem.putAt (m : Mem P w T) {n : Nat} {p : Addr × Addr} {o o' : O} {u : HO} (hp : m.φ[n]? = some p) (ho : m.S[n]? = some o) (hl : o.live = true)
    (ob : ∀ M' : Addr → Prop, (∀ x v, m.H x = some v → ¬ m.M x → upd m.H p.1 u x = some v ∧ ¬ M' x) → ObR P w T M' (upd m.H p.1 u) p.1 p.2 o') :
    ∃ m' : Mem P w T, m'.S = m.S.set n o' ∧ m'.H = upd m.H p.1 u ∧ Fut m m' := by
  have at1 : m.M p.1 := ⟨n, p, o, hp, ho, hl, .inl rfl⟩
  have k : ∀ x, x ≠ p.1 → x ≠ p.2 → upd m.H p.1 u x = m.H x := fun x h _ => upd_ne h
  have ta : (upd m.H p.1 u p.1).isSome = true := by rw [upd_same]; rfl
  have tb : (upd m.H p.1 u p.2).isSome = true := by
    by_cases e : p.2 = p.1
    · rw [e]; exact ta
    · rw [upd_ne e]; exact (m.there n p hp).2
  have ob' : ObR P w T (Mt_ m.φ (m.S.set n o')) (upd m.H p.1 u) p.1 p.2 o' := ob _ fun x v e nm => by
    have ne : x ≠ p.1 := fun z => nm (by rw [z]; exact at1)
    exact ⟨by rw [upd_ne ne]; exact e, fun z => nm (mt_set ho hl z)⟩
  exact ⟨m.put n p o o' _ hp ho hl k ta tb ob', rfl, rfl, m.put_fut hp ho hl k ta tb ob'⟩
theorem Mem.putL (m : Mem P w T) {n : Nat} {p : Addr × Addr} {ds ds' : List D} {xs' : List V} (hp : m.φ[n]? = some p) (ho : m.S[n]? = some (.lst ds)) (r : DrAll P w T m.M m.H ds' xs') :
    ∃ m' : Mem P w T, m'.S = m.S.set n (.lst ds') ∧ m'.H = upd m.H p.1 (.lst xs') ∧ Fut m m' :=
  m.putAt hp ho rfl fun _ k => ⟨xs', upd_same, DrAll.mono k _ _ r⟩
theorem DrAll.dropLast {M : Addr → Prop} {H : Hp} : ∀ {ds : List D} {vs : List V}, DrAll P w T M H ds vs → DrAll P w T M H ds.dropLast vs.dropLast
  | _, _, .nil => .nil
  | _, _, .cons _ .nil => .nil
  | _, _, .cons a (.cons b r) => .cons a (DrAll.dropLast (.cons b r))
theorem DrAll.erase {M : Addr → Prop} {H : Hp} : ∀ {ds : List D} {vs : List V} (i : Nat), DrAll P w T M H ds vs → DrAll P w T M H (ds.eraseIdx i) (vs.eraseIdx i)
  | _, _, _, .nil => .nil
  | _, _, 0, .cons _ r => r
  | _, _, i + 1, .cons a r => .cons a (DrAll.erase i r)
end
section
variable {X : Cx} {T : Ct}
def rM (X : Cx) (T : Ct) (mt : Mt) : V → List V → Hp → VK → Prop := fun x xs H Q => ∃ (m : Mem X.prog X.w T) (a : Vl) (as : List Vl) (W : WX) (σ : St), m.H = H ∧ VR X.K m a x ∧ VRs X.K m as xs ∧ OutG (VR X.K) W σ m (mthD m.S mt a as) Q
/-- a method that changes the list at n -/
theorem mut_out {m : Mem X.prog X.w T} {mt : Mt} {a : Vl} {as : List Vl} {W : WX} {σ : St} {Q : VK} {x : V} (hm : mt.mut = true) (va : VR X.K m a x) (o : OutG (VR X.K) W σ m (mthD m.S mt a as) Q) :
    ∃ (n : Nat) (p : Addr × Addr) (ds ds' : List D) (y : D) (xs : List V), x = .ref p.1 ∧ m.φ[n]? = some p ∧ m.S[n]? = some (.lst ds) ∧ m.H p.1 = some (.lst xs) ∧ DrAll X.prog X.w T m.M m.H ds xs ∧ mutD mt ds as = some (y, ds') ∧
      ∀ (xs' : List V) (z : V), DrAll X.prog X.w T m.M m.H ds' xs' → Dr X.prog X.w T m.M m.H y z → Q z (upd m.H p.1 (.lst xs')) := by
  unfold mthD at o
  rw [if_pos hm] at o
  split at o
  · rename_i n
    obtain ⟨p, hp, rfl⟩ := va
    split at o
    · rename_i ds ho
      split at o
      · rename_i y ds' e
        obtain ⟨xs, h1, h2⟩ := m.obj n p _ hp ho
        refine ⟨n, p, ds, ds', y, xs, rfl, hp, ho, h1, h2, e, fun xs' z r q => ?_⟩
        obtain ⟨m', e1, e2, f⟩ := m.putL hp ho r
        have := o z m' f e1 (Dr.mono f.keep _ _ q)
        rw [e2] at this
        exact this
      · exact o.elim
    · exact o.elim
  · exact o.elim
theorem m_append : MtR X "list.append" (rM X T .append) := by
  intro pins s σ H x xs v us Q I rx rxs h
  obtain ⟨m, a, as, W, σ', rfl, va, vs, o⟩ := h
  obtain ⟨n, p, ds, ds', y, ys, rfl, hp, ho, h1, h2, e, k⟩ := mut_out rfl va o
  replace e : appD ds as = some (y, ds') := e
  unfold appD at e
  split at e
  · split at e
    · rename_i hl
      cases e
      cases vs with
      | cons hv r =>
        cases r
        exact mt_append pins s σ m.H _ _ v us Q I rx rxs ⟨p.1, ys, _, rfl, rfl, h1, by rw [← h2.length]; exact Nat.lt_of_lt_of_le (Nat.lt_succ_self _) (inLine_sz hl), k _ _ (h2.append (.cons hv .nil)) .non⟩
    · cases e
  · cases e
theorem m_extend : MtR X "list.extend" (rM X T .extend) := by
  intro pins s σ H x xs v us Q I rx rxs h
  obtain ⟨m, a, as, W, σ', rfl, va, vs, o⟩ := h
  obtain ⟨n, p, ds, ds', y, ys, rfl, hp, ho, h1, h2, e, k⟩ := mut_out rfl va o
  replace e : extD ds as = some (y, ds') := e
  unfold extD at e
  split at e
  · split at e
    · rename_i hl
      cases e
      cases vs with
      | cons hv r =>
        cases r
        obtain ⟨q, zs, rfl, h3, _, h4⟩ := Dr.lst_inv hv
        exact mt_extend pins s σ m.H _ _ v us Q I rx rxs ⟨p.1, q, ys, zs, rfl, rfl, h1, h3, by rw [← h2.length, ← h4.length]; exact inLine_sz hl, k _ _ (h2.append h4) .non⟩
    · cases e
  · cases e
theorem m_reverse : MtR X "list.reverse" (rM X T .reverse) := by
  intro pins s σ H x xs v us Q I rx rxs h
  obtain ⟨m, a, as, W, σ', rfl, va, vs, o⟩ := h
  obtain ⟨n, p, ds, ds', y, ys, rfl, hp, ho, h1, h2, e, k⟩ := mut_out rfl va o
  replace e : revLD ds as = some (y, ds') := e
  unfold revLD at e
  split at e
  · cases e
    cases vs
    exact mt_reverse pins s σ m.H _ _ v us Q I rx rxs ⟨p.1, ys, rfl, rfl, h1, k _ _ h2.reverse .non⟩
  · cases e
theorem m_pop : MtR X "list.pop" (rM X T .pop) := by
  intro pins s σ H x xs v us Q I rx rxs h
  obtain ⟨m, a, as, W, σ', rfl, va, vs, o⟩ := h
  obtain ⟨n, p, ds, ds', y, ys, rfl, hp, ho, h1, h2, e, k⟩ := mut_out rfl va o
  replace e : popD ds as = some (y, ds') := e
  unfold popD at e
  split at e
  · split at e
    · rename_i z hz
      cases e
      cases vs
      obtain ⟨b, hb, rb⟩ := h2.get hz
      rw [h2.length] at hb
      exact mt_pop pins s σ m.H _ _ v us Q I rx rxs ⟨p.1, ys, b, rfl, rfl, h1, hb, k _ _ h2.dropLast rb⟩
    · cases e
  · cases e
theorem m_popAt : MtR X "list.pop" (rM X T .popAt) := by
  intro pins s σ H x xs v us Q I rx rxs h
  obtain ⟨m, a, as, W, σ', rfl, va, vs, o⟩ := h
  obtain ⟨n, p, ds, ds', y, ys, rfl, hp, ho, h1, h2, e, k⟩ := mut_out rfl va o
  replace e : popAtD ds as = some (y, ds') := e
  unfold popAtD at e
  split at e
  · rename_i i
    split at e
    · rename_i hi
      have hi := of_decide_eq_true hi
      split at e
      · rename_i z hz
        cases e
        cases vs with
        | cons hv r =>
          cases r
          cases Dr.int_inv hv
          obtain ⟨b, hb, rb⟩ := h2.get hz
          have hx : ixN ys.length i = some i.toNat := by
            unfold ixN
            rw [if_pos hi.1, if_pos (by rw [← h2.length]; exact hi.2)]
          obtain ⟨q1, q2, q3, q4⟩ := ixN_seq hx
          have hbig := h2.length
          have hsl := I.list (SqL.of h1)
          obtain ⟨_, _, _, hz2⟩ := hsl
          have hs63 : (sizeLine : Nat) < 2 ^ 63 := line63
          exact mt_popAt pins s σ m.H _ _ v us Q I rx rxs ⟨p.1, ys, i, i.toNat, b, rfl, rfl, h1, by omega, by omega, q1, hb, k _ _ (h2.erase _) rb⟩
      · cases e
    · cases e
  · cases e
theorem ask_out {m : Mem X.prog X.w T} {mt : Mt} {a : Vl} {as : List Vl} {W : WX} {σ : St} {Q : VK} (hm : mt.mut = false) (o : OutG (VR X.K) W σ m (mthD m.S mt a as) Q) : OutD m (askD m.S mt a as) Q := by
  unfold mthD at o
  rw [if_neg (by rw [hm]; exact Bool.false_ne_true)] at o
  exact OutD.of o
theorem m_countL : MtR X "list.count" (rM X T .countL) := by
  intro pins s σ H x xs v us Q I rx rxs h
  obtain ⟨m, a, as, W, σ', rfl, va, vs, o⟩ := h
  replace o : OutD m (cntL m.S a as) Q := ask_out rfl o
  unfold cntL at o
  split at o
  · rename_i k
    split at o
    · rename_i ds e
      split at o
      · rename_i hi
        cases vs with
        | cons hv r =>
          cases r
          cases Dr.int_inv hv
          obtain ⟨p, ys, rfl, h1, h2⟩ := lst_of va e
          rw [h2.allI hi] at h1
          exact mt_lcount pins s σ m.H _ _ v us Q I rx rxs ⟨p, _, k, rfl, rfl, SqL.of h1, o.get (.int _)⟩
      · exact o.elim
    · exact o.elim
  · exact o.elim
theorem m_countT : MtR X "tuple.count" (rM X T .countT) := by
  intro pins s σ H x xs v us Q I rx rxs h
  obtain ⟨m, a, as, W, σ', rfl, va, vs, o⟩ := h
  replace o : OutD m (cntT a as) Q := ask_out rfl o
  unfold cntT at o
  split at o
  · rename_i k
    split at o
    · rename_i ds
      split at o
      · rename_i hi
        cases vs with
        | cons hv r =>
          cases r
          cases Dr.int_inv hv
          obtain ⟨p, ys, rfl, h1, _, h2⟩ := Dr.tup_inv va
          rw [h2.allI hi] at h1
          cases rx
          obtain ⟨u, rfl, ru⟩ := Vals.one rxs
          obtain ⟨t, rfl⟩ := ru
          obtain ⟨its, rv, ⟨⟨cls, dd, data, sl⟩, ho, hc, n, hd⟩, hlen⟩ := I.tuple (sqT h1)
          simp only at hc hd
          subst hc hd
          have hii := ints_of_vals rv
          refine call_meets PySem.F.slot_tuple_count ⟨_, ho, rfl⟩ PySem.F.entry_tuple_count (PySem.F.args_tuple_count_2 _ _)
            (SeqAt.tuple_countAt p its.toArray n dd sl (.int k t) (eqk k)) ⟨ho, fun y hy => (eqk_gives hii y (by simpa using hy)).at _ _, ?_⟩
          have ec : its.toArray.toList.countP (eqk k) = (intsOf ds).count k := eqk_count hii
          refine ⟨.int ((intsOf ds).count k : Nat), m.H, I.tok _, ⟨s.toks, ?_⟩, o.get (.int _)⟩
          show Value.int ((its.toArray.toList.countP (eqk k) : Nat) : Int) s.toks = Value.int (((intsOf ds).count k : Nat) : Int) s.toks
          rw [ec]
      · exact o.elim
    · exact o.elim
  · exact o.elim
end
end Itp

set_option Elab.async false
set_option linter.all false
set_option autoImplicit false
set_option maxRecDepth 100000
set_option maxHeartbeats 4000000
/-! Expressions, one rule a construct. -/
namespace Itp
open PySem L2
section
variable {X : Cx} {T : Ct} {C : CallF} {W : WX}
abbrev SE (X : Cx) (T : Ct) (C : CallF) (W : WX) (e : Expr) (i : E) : Prop := PE X e (tE X.prog X.w T X.K (sem C i).v W)
abbrev ST (X : Cx) (T : Ct) (C : CallF) (W : WX) (e : Expr) (i : E) : Prop := PT X e (tT X.prog X.w T X.K (sem C i).t W)
abbrev SA (X : Cx) (T : Ct) (C : CallF) (W : WX) (es : List Expr) (is : List E) : Prop := PA X es (tA X.prog X.w T X.K (vals (sems C is)) W)
abbrev SO (X : Cx) (T : Ct) (C : CallF) (W : WX) (e : Option Expr) (i : Option E) : Prop := PO X e (tO X.prog X.w T X.K (part (semO C i)) W)
variable {a b c e o : Expr} {es : List Expr} {ia ib ic ie io : E} {is : List E} {pos : Pos} {x : Str}

theorem s_var (i : Nat) (hN : X.N[i]? = some x := by rfl) (hv : Vis X.env.scope x := by first | exact Or.inl rfl | exact Or.inr (Or.inl rfl) | exact Or.inr (Or.inr rfl)) (hd : (x == ("__debug__" : Str)) = false := by decide) (hcd : (x == ("__classdict__" : Str)) = false := by decide) :
    SE X T C W (.Name x pos) (.var i) := by
  refine imE (pe_var (i := i) hN hv hd hcd) fun σ H Q h => ?_
  obtain ⟨env, m, rfl, er, o⟩ := h
  replace o : OutG (VR X.K) W σ m (match env[i]? with | some (some v) => .ok v m.S | _ => .er) Q := o
  split at o
  · rename_i v e
    obtain ⟨y, h1, h2⟩ := er.2 i v e
    exact ⟨y, h1, o.get h2⟩
  · exact o.elim
theorem s_int {i : Int} {j : Nat} : SE X T C W (.Constant (.int i) j pos) (.con (.int i)) :=
  imE pe_int fun σ H Q ⟨env, m, e, er, o⟩ => by subst e; exact OutG.get (R' := VR X.K) o (.int i)
theorem s_bl {i : Bool} {j : Nat} : SE X T C W (.Constant (.bool i) j pos) (.con (.bool i)) :=
  imE pe_bl fun σ H Q ⟨env, m, e, er, o⟩ => by subst e; exact OutG.get (R' := VR X.K) o (.bl i)
theorem s_non {j : Nat} : SE X T C W (.Constant .none j pos) (.con .none) :=
  imE pe_non fun σ H Q ⟨env, m, e, er, o⟩ => by subst e; exact OutG.get (R' := VR X.K) o .non
theorem s_str {i : Str} {j : Nat} : SE X T C W (.Constant (.str i) j pos) (.con (.str i)) :=
  imE pe_str fun σ H Q ⟨env, m, e, er, o⟩ => by subst e; exact OutG.get (R' := VR X.K) o (.str i)
theorem s_glbI {i : Int} (hg : Gl X x) (hm : ∃ t, X.mg x = some (.int i t)) (hd : (x == ("__debug__" : Str)) = false := by decide) : SE X T C W (.Name x pos) (.glb x (.int i)) := by
  obtain ⟨t, hm⟩ := hm
  exact imE (pe_glob (v := .int i) hg hm ⟨t, rfl⟩ hd) fun σ H Q ⟨env, m, e, er, o⟩ => by subst e; exact OutG.get (R' := VR X.K) o (.int i)
theorem s_glbS {i : Str} (hg : Gl X x) (hm : ∃ t, X.mg x = some (.str i t)) (hd : (x == ("__debug__" : Str)) = false := by decide) : SE X T C W (.Name x pos) (.glb x (.str i)) := by
  obtain ⟨t, hm⟩ := hm
  exact imE (pe_glob (v := .str i) hg hm ⟨t, rfl⟩ hd) fun σ H Q ⟨env, m, e, er, o⟩ => by subst e; exact OutG.get (R' := VR X.K) o (.str i)
theorem s_anil : SA X T C W [] [] := imA pa_nil fun σ H Q ⟨env, m, e, er, o⟩ => by subst e; exact OutG.get (R' := VRs X.K) o .nil
theorem s_acons (h : SE X T C W e ie) (hr : SA X T C W es is) (hs : starEach (e :: es) X.env = (false, eval e X.env) :: starEach es X.env := by rfl) : SA X T C W (e :: es) (ie :: is) := by
  refine imA (pa_cons h hr hs) fun σ H Q hh => ?_
  obtain ⟨env, m, rfl, er, o⟩ := hh
  refine ⟨env, m, rfl, er, (OutG.bind (R := VR X.K) (R' := VRs X.K) (r := (sem C ie).v env m.S) o).imp ?_⟩
  rintro y H1 ⟨v, m1, f1, rfl, hv, o1⟩
  refine ⟨env, m1, rfl, er.mono f1, (OutG.bind (R := VRs X.K) (R' := VRs X.K) o1).imp ?_⟩
  rintro ys H2 ⟨vs, m2, f2, rfl, hvs, o2⟩
  exact o2.get (VRs.cons (hv.mono f2) hvs)
/-- a tuple, its object known -/
theorem pe_tupF {x1 : Nat} {t : TA} (h : PA X es t) : PE X (.Tuple es x1 pos) (fun σ H Q => t σ H fun xs H1 => xs.length ≤ sizeLine ∧ ∀ (p : Addr) (o : Obj), H1 p = none → o.dict = none → Q (.ref p) (upd H1 p (.frz o (.tup xs)))) := by
  refine ⟨fun pins s σ H Q I hq => ?_⟩
  refine wpAny_Tuple_spliced (thn (h.run pos pins s σ H _ I hq) fun us s1 ⟨xs, H1, I1, r, z, q⟩ => ⟨by rw [← r.length]; exact z, ?_⟩)
  have hf : H1 s1.heap.objs.size = none := I1.hok.fresh (Nat.le_refl _)
  refine ⟨.ref s1.heap.objs.size, _, I1.laid (t' := s1.toks) (o := .frz (tupO us) (.tup xs)) (fun b u e => Heap.get?_push_of_some _ e) (Nat.le_refl _) ?_, rfl, q _ _ hf rfl⟩
  exact ⟨Heap.get?_push_size _ rfl, z, us, r, ⟨_, Heap.get?_push_size _ rfl, rfl, _, rfl⟩⟩
theorem s_tup {x1 : Nat} (h : SA X T C W es is) : SE X T C W (.Tuple es x1 pos) (.tup is) := by
  refine imE (pe_tupF h) fun σ H Q hh => ?_
  obtain ⟨env, m, rfl, er, o⟩ := hh
  refine ⟨env, m, rfl, er, (OutG.bind (R := VRs X.K) (R' := VR X.K) (r := vals (sems C is) env m.S) o).imp ?_⟩
  rintro xs H1 ⟨vs, m1, f1, rfl, hv, o1⟩
  split at o1
  · rename_i ds ed
    split at o1
    · rename_i hl
      have hd := hv.dat ed
      refine ⟨by rw [← hd.length]; exact inLine_sz hl, fun p ob hp ho => ?_⟩
      exact OutD.tup (fun x m' f e y => o1 x m' f e y) hd p ob hp ho
    · exact o1.elim
  · exact o1.elim
theorem s_lst (h : SA X T C W es is) : SE X T C W (.List es pos) (.lst is) := by
  refine imE (pe_lst h) fun σ H Q hh => ?_
  obtain ⟨env, m, rfl, er, o⟩ := hh
  refine ⟨env, m, rfl, er, (OutG.bind (R := VRs X.K) (R' := VR X.K) (r := vals (sems C is) env m.S) o).imp ?_⟩
  rintro xs H1 ⟨vs, m1, f1, rfl, hv, o1⟩
  split at o1
  · rename_i ds ed
    split at o1
    · rename_i hl
      have hd := hv.dat ed
      refine ⟨by rw [← hd.length]; exact inLine_sz hl, ?_⟩
      exact OutD.new (d := .list ds) (fun x m' f e y => o1 x m' f e y) (dr_newL hd)
    · exact o1.elim
  · exact o1.elim
/-- a list that will change -/
theorem s_new (h : SA X T C W es is) : SE X T C W (.List es pos) (.new is) := by
  refine imE (pe_lst h) fun σ H Q hh => ?_
  obtain ⟨env, m, rfl, er, o⟩ := hh
  refine ⟨env, m, rfl, er, (OutG.bind (R := VRs X.K) (R' := VR X.K) (r := vals (sems C is) env m.S) o).imp ?_⟩
  rintro xs H1 ⟨vs, m1, f1, rfl, hv, o1⟩
  split at o1
  · rename_i ds ed
    split at o1
    · rename_i hl
      have hd := hv.dat ed
      refine ⟨by rw [← hd.length]; exact inLine_sz hl, fun p hp => ?_⟩
      have k := upd_keep (o := .lst xs) hp
      have ob : ∀ M : Addr → Prop, (∀ x u, m1.H x = some u → ¬ m1.M x → ¬ M x) → ObR X.prog X.w T M (upd m1.H p (.lst xs)) p p (.lst ds) := fun M hM =>
        ⟨xs, upd_same, DrAll.mono (fun x u e n => ⟨k x u e, hM x u e n⟩) _ _ hd⟩
      have t : (upd m1.H p (.lst xs) p).isSome = true := by rw [upd_same]; rfl
      refine o1 (.ref p) (m1.push (.lst ds) p p _ hp hp k t t rfl ob) (m1.push_fut hp hp k t t rfl ob) rfl ⟨(p, p), ?_, rfl⟩
      show (m1.φ ++ [(p, p)])[m1.S.length]? = some (p, p)
      rw [← m1.len, List.getElem?_append_right (Nat.le_refl _)]
      simp
    · exact o1.elim
  · exact o1.elim
theorem s_bin {op : Operator} {iop : BOp} (ho : OpR X (binaryOp op) (rB X T iop)) (ha : SE X T C W a ia) (hb : SE X T C W b ib) : SE X T C W (.BinOp a op b pos) (.bin iop ia ib) :=
  imE (pe_op ho ha hb) fun σ H Q h => two_ h
theorem s_neg (ha : SE X T C W a ia) : SE X T C W (.UnaryOp .USub a pos) (.neg ia) := by
  refine imE (pe_un un_neg ha) fun σ H Q hh => ?_
  obtain ⟨env, m, rfl, er, o⟩ := hh
  refine ⟨env, m, rfl, er, (OutG.bind (R := VR X.K) (R' := VR X.K) (r := (sem C ia).v env m.S) o).imp ?_⟩
  rintro y H1 ⟨v, m1, f1, rfl, hv, o1⟩
  split at o1
  · rename_i i
    cases Dr.int_inv hv
    exact ⟨i, rfl, o1.get (.int (-i))⟩
  · exact o1.elim
theorem s_cmp {op : CmpOp} {iop : COp} (ho : OpR X (compareOp op) (rC X T iop)) (ha : SE X T C W a ia) (hb : SE X T C W b ib) (hm : behindInMarks op b = false := by first | exact nomark _ | rfl) : SE X T C W (.Compare a [op] [b] pos) (.cmp iop ia ib) :=
  imE (pe_cmpR ho ha hb hm) fun σ H Q h => twoB h
/-- what follows a test's value -/
def trK (W : WX) (T : Ct) (σ : St) (Q : Bool → Hp → Prop) : VK := fun x H1 => ∃ (m : Mem X.prog X.w T) (v : Vl), m.H = H1 ∧ VR X.K m v x ∧ OutG BoR W σ m (match truthV m.S v with | some k => .ok k m.S | none => .er) Q
theorem tT_of {v : Ev → Sto → Re Vl} {σ : St} {H : Hp} {Q : Bool → Hp → Prop} (h : tT X.prog X.w T X.K (valM v).t W σ H Q) : tE X.prog X.w T X.K v W σ H (trK (X := X) W T σ Q) := by
  obtain ⟨env, m, rfl, er, o⟩ := h
  refine ⟨env, m, rfl, er, (OutG.bind (R := VR X.K) (R' := BoR) (r := v env m.S) o).imp ?_⟩
  rintro y H1 ⟨u, m1, f1, rfl, hv, o1⟩
  exact ⟨m1, u, rfl, hv, o1⟩
theorem trK_bool {σ : St} {Q : Bool → Hp → Prop} {k : Bool} {H : Hp} (h : trK (X := X) W T σ Q (.bl k) H) : Q k H := by
  obtain ⟨m, v, rfl, hv, o⟩ := h
  cases v with
  | d z =>
    cases hv with
    | bl _ => exact OutG.get (R' := BoR) o rfl
  | r n => obtain ⟨p, _, e⟩ := hv; cases e
  | s n => obtain ⟨p, e, _⟩ := hv; cases e
  | x n k => obtain ⟨p, e, _⟩ := hv; cases e
theorem tru_of {m : Mem X.prog X.w T} {v : Vl} {x : V} {k : Bool} (hv : VR X.K m v x) (e : truthV m.S v = some k) : TruV X.K x m.H k := by
  cases v with
  | d z =>
    replace e : truthD z = some k := e
    cases z with
    | none => cases Dr.non_inv hv; cases e; rfl
    | bool b => cases Dr.bl_inv hv; cases e; rfl
    | int i => cases Dr.int_inv hv; cases e; rfl
    | str t =>
      cases Dr.str_inv hv
      replace e : (if t.length ≤ 100000 then some ((t.length : Int) != 0) else none) = some k := e
      split at e
      · rename_i hl
        cases e
        exact ⟨Nat.le_trans hl (show 100000 ≤ sizeLine by decide), rfl⟩
      · cases e
    | list ds =>
      obtain ⟨p, xs, rfl, h1, _, h2⟩ := Dr.lst_inv hv
      cases e
      refine .inl ⟨xs, SqL.of h1, ?_⟩
      cases h2 <;> rfl
    | tuple ds =>
      obtain ⟨p, xs, rfl, h1, _, h2⟩ := Dr.tup_inv hv
      cases e
      refine .inr (.inl ⟨xs, sqT h1, ?_⟩)
      cases h2 <;> rfl
    | dict ds => cases e
  | r n =>
    unfold truthV at e
    simp only at e
    split at e
    · rename_i ds ho
      cases e
      obtain ⟨p, hp, rfl⟩ := hv
      obtain ⟨xs, h1, h2⟩ := m.obj n p _ hp ho
      refine .inl ⟨xs, SqL.of h1, ?_⟩
      cases h2 <;> rfl
    · cases e
  | s n => cases e
  | x n k => cases e
/-- a test by the value's truth -/
theorem t_val {v : Ev → Sto → Re Vl} (ha : PE X a (tE X.prog X.w T X.K v W)) (he : ∀ whole, isTrue a X.env whole = (do let v ← whole; standAt a.pos; holding [v] (truthy v)) := by intro _; rfl) : PT X a (tT X.prog X.w T X.K (valM v).t W) := by
  refine imT (pt_truth ha he) fun σ H Q h => ?_
  obtain ⟨env, m, rfl, er, o⟩ := tT_of h
  refine ⟨env, m, rfl, er, o.imp ?_⟩
  rintro y H1 ⟨m1, u, rfl, hv, o1⟩
  split at o1
  · rename_i k e
    exact ⟨k, tru_of hv e, OutG.get (R' := BoR) o1 rfl⟩
  · exact o1.elim
theorem t_vl (ha : SE X T C W a ia) (he : ∀ whole, isTrue a X.env whole = (do let v ← whole; standAt a.pos; holding [v] (truthy v)) := by intro _; rfl) (hi : (sem C ia).t = (valM (sem C ia).v).t := by rfl) : ST X T C W a ia := by
  have h := t_val ha he
  rw [← hi] at h
  exact h
theorem t_cmp {op : CmpOp} {iop : COp} (ho : OpR X (compareOp op) (rC X T iop)) (ha : SE X T C W a ia) (hb : SE X T C W b ib) (hm : behindInMarks op b = false := by first | exact nomark _ | rfl) : ST X T C W (.Compare a [op] [b] pos) (.cmp iop ia ib) := by
  refine imT (pt_cmpR ho ha hb hm) fun σ H Q h => ?_
  obtain ⟨env, m, rfl, er, o⟩ := twoB (tT_of h)
  refine ⟨env, m, rfl, er, o.imp ?_⟩
  rintro y H1 ⟨env2, m2, rfl, er2, o2⟩
  refine ⟨env2, m2, rfl, er2, o2.imp ?_⟩
  rintro z H2 ⟨m3, p, q, rfl, vp, vq, o3⟩
  refine ⟨m3, p, q, rfl, vp, vq, ?_⟩
  replace o3 : OutD m3 ((cmpD m3.S iop p q).map PyData.bool) (trK (X := X) W T σ Q) := o3
  show OutD m3 ((cmpD m3.S iop p q).map PyData.bool) _
  cases e : cmpD m3.S iop p q with
  | none =>
    rw [e] at o3
    exact o3.elim
  | some k =>
    rw [e] at o3
    intro xx m' f e' y'
    cases Dr.bl_inv y'
    exact ⟨k, rfl, trK_bool (o3 (.bl k) m' f e' y')⟩
theorem s_chain {o1 o2 : CmpOp} {i1 i2 : COp} (h1 : OpR X (compareOp o1) (rC X T i1)) (h2 : OpR X (compareOp o2) (rC X T i2)) (ha : SE X T C W a ia) (hb : SE X T C W b ib) (hc : SE X T C W c ic) (hm : lastMarks [o1, o2] [b, c] = false := by with_unfolding_all rfl) :
    SE X T C W (.Compare a [o1, o2] [b, c] pos) (.chain i1 i2 ia ib ic) := by
  refine imE (pe_chain h1 h2 ha hb hc hm) fun σ H Q hh => ?_
  obtain ⟨env, m, rfl, er, o⟩ := hh
  refine ⟨env, m, rfl, er, (OutG.bind (R := VR X.K) (R' := VR X.K) (r := (sem C ia).v env m.S) o).imp ?_⟩
  rintro y H1 ⟨u, m1, f1, rfl, hv, q1⟩
  refine ⟨env, m1, rfl, er.mono f1, (OutG.bind (R := VR X.K) (R' := VR X.K) (r := (sem C ib).v env m1.S) q1).imp ?_⟩
  rintro z H2 ⟨u2, m2, f2, rfl, hv2, q2⟩
  refine ⟨m2, u, u2, rfl, hv.mono f2, hv2, ?_⟩
  show OutD m2 ((cmpD m2.S i1 u u2).map PyData.bool) _
  cases e : cmpD m2.S i1 u u2 with
  | none => rw [e] at q2; exact q2.elim
  | some k =>
    rw [e] at q2
    intro x' m' f e' y'
    cases Dr.bl_inv y'
    refine ⟨k, rfl, ?_⟩
    cases k with
    | false =>
      refine iteF ?_
      have q2 := OutG.fut f q2
      rw [← e'] at q2
      exact q2.get (.bl false)
    | true =>
      refine iteT ?_
      have q2 := OutG.fut f q2
      rw [← e'] at q2
      refine ⟨env, m', rfl, (er.mono f1).mono (f2.trans f), (OutG.bind (R := VR X.K) (R' := VR X.K) (r := (sem C ic).v env m'.S) q2).imp ?_⟩
      rintro z3 H3 ⟨u3, m3, f3, rfl, hv3, q3⟩
      exact ⟨m3, u2, u3, rfl, hv2.mono (f.trans f3), hv3, OutD.ofB q3⟩
theorem t_chain {o1 o2 : CmpOp} {i1 i2 : COp} (h1 : OpR X (compareOp o1) (rC X T i1)) (h2 : OpR X (compareOp o2) (rC X T i2)) (ha : SE X T C W a ia) (hb : SE X T C W b ib) (hc : SE X T C W c ic) (hm : lastMarks [o1, o2] [b, c] = false := by with_unfolding_all rfl) :
    ST X T C W (.Compare a [o1, o2] [b, c] pos) (.chain i1 i2 ia ib ic) := by
  refine imT (pt_chain h1 h2 ha hb hc hm) fun σ H Q hh => ?_
  obtain ⟨env, m, rfl, er, o⟩ := tT_of hh
  refine ⟨env, m, rfl, er, (OutG.bind (R := VR X.K) (R' := VR X.K) (r := (sem C ia).v env m.S) o).imp ?_⟩
  rintro y H1 ⟨u, m1, f1, rfl, hv, q1⟩
  refine ⟨env, m1, rfl, er.mono f1, (OutG.bind (R := VR X.K) (R' := VR X.K) (r := (sem C ib).v env m1.S) q1).imp ?_⟩
  rintro z H2 ⟨u2, m2, f2, rfl, hv2, q2⟩
  refine ⟨m2, u, u2, rfl, hv.mono f2, hv2, ?_⟩
  show OutD m2 ((cmpD m2.S i1 u u2).map PyData.bool) _
  cases e : cmpD m2.S i1 u u2 with
  | none => rw [e] at q2; exact q2.elim
  | some k =>
    rw [e] at q2
    intro x' m' f e' y'
    cases Dr.bl_inv y'
    refine ⟨k, rfl, ?_⟩
    cases k with
    | false =>
      refine iteF ?_
      have q2 := OutG.fut f q2
      rw [← e'] at q2
      exact ⟨false, rfl, trK_bool (q2.get (show VR X.K m' (.d (.bool false)) (.bl false) from Dr.bl false))⟩
    | true =>
      refine iteT ?_
      have q2 := OutG.fut f q2
      rw [← e'] at q2
      refine ⟨env, m', rfl, (er.mono f1).mono (f2.trans f), (OutG.bind (R := VR X.K) (R' := VR X.K) (r := (sem C ic).v env m'.S) q2).imp ?_⟩
      rintro z3 H3 ⟨u3, m3, f3, rfl, hv3, q3⟩
      refine ⟨m3, u2, u3, rfl, hv2.mono (f.trans f3), hv3, ?_⟩
      have q4 := OutD.ofB q3
      show OutD m3 ((cmpD m3.S i2 u2 u3).map PyData.bool) _
      cases e2 : cmpD m3.S i2 u2 u3 with
      | none => rw [e2] at q4; exact q4.elim
      | some k2 =>
        rw [e2] at q4
        intro x5 m5 f5 e5 y5
        cases Dr.bl_inv y5
        exact ⟨k2, rfl, trK_bool (q4 (.bl k2) m5 f5 e5 y5)⟩
theorem s_and {r : List Expr} (ha : SE X T C W a ia) (hb : SE X T C W (.BoolOp .And (b :: r) pos) ib) : SE X T C W (.BoolOp .And (a :: b :: r) pos) (.and ia ib) := by
  refine imE (pe_and ha hb) fun σ H Q hh => ?_
  obtain ⟨env, m, rfl, er, o⟩ := hh
  refine ⟨env, m, rfl, er, (OutG.bind (R := VR X.K) (R' := VR X.K) (r := (sem C ia).v env m.S) o).imp ?_⟩
  rintro y H1 ⟨u, m1, f1, rfl, hv, q1⟩
  split at q1
  · cases Dr.bl_inv hv
    exact ⟨true, rfl, iteT ⟨env, m1, rfl, er.mono f1, q1⟩⟩
  · cases Dr.bl_inv hv
    exact ⟨false, rfl, iteF (q1.get hv)⟩
  · exact q1.elim
theorem s_or {r : List Expr} (ha : SE X T C W a ia) (hb : SE X T C W (.BoolOp .Or (b :: r) pos) ib) : SE X T C W (.BoolOp .Or (a :: b :: r) pos) (.or ia ib) := by
  refine imE (pe_or ha hb) fun σ H Q hh => ?_
  obtain ⟨env, m, rfl, er, o⟩ := hh
  refine ⟨env, m, rfl, er, (OutG.bind (R := VR X.K) (R' := VR X.K) (r := (sem C ia).v env m.S) o).imp ?_⟩
  rintro y H1 ⟨u, m1, f1, rfl, hv, q1⟩
  split at q1
  · cases Dr.bl_inv hv
    exact ⟨false, rfl, iteF ⟨env, m1, rfl, er.mono f1, q1⟩⟩
  · cases Dr.bl_inv hv
    exact ⟨true, rfl, iteT (q1.get hv)⟩
  · exact q1.elim
theorem s_one {op : BoolOp} (ha : SE X T C W a ia) : SE X T C W (.BoolOp op [a] pos) ia := pe_one ha
theorem s_not (ha : SE X T C W a ia) : SE X T C W (.UnaryOp .Not a pos) (.not ia) := by
  refine imE (pe_not ha) fun σ H Q hh => ?_
  obtain ⟨env, m, rfl, er, o⟩ := hh
  refine ⟨env, m, rfl, er, (OutG.bind (R := VR X.K) (R' := VR X.K) (r := (sem C ia).v env m.S) o).imp ?_⟩
  rintro y H1 ⟨u, m1, f1, rfl, hv, q1⟩
  split at q1
  · rename_i k
    cases Dr.bl_inv hv
    exact ⟨k, rfl, q1.get (show VR X.K m1 (.d (.bool (!k))) (.bl (!k)) from Dr.bl _)⟩
  · exact q1.elim
/-- tests of and, or, whatever stands around -/
abbrev SW (X : Cx) (T : Ct) (C : CallF) (W : WX) (e : Expr) (i : E) : Prop := PW X e (tT X.prog X.w T X.K (sem C i).t W)
theorem w_and1 (ha : ST X T C W a ia) : SW X T C W (.BoolOp .And [a] pos) ia := pw_and1 ha
theorem w_or1 (ha : ST X T C W a ia) : SW X T C W (.BoolOp .Or [a] pos) ia := pw_or1 ha
theorem w_and {r : List Expr} (ha : ST X T C W a ia) (hb : SW X T C W (.BoolOp .And (b :: r) pos) ib) : SW X T C W (.BoolOp .And (a :: b :: r) pos) (.and ia ib) := by
  refine imW (pw_and ha hb) fun σ H Q hh => ?_
  obtain ⟨env, m, rfl, er, o⟩ := hh
  refine ⟨env, m, rfl, er, (OutG.bind (R := BoR) (R' := BoR) (r := (sem C ia).t env m.S) o).imp ?_⟩
  rintro y H1 ⟨u, m1, f1, rfl, rfl, q1⟩
  cases u with
  | true => exact iteT ⟨env, m1, rfl, er.mono f1, q1⟩
  | false => exact iteF (OutG.get (R' := BoR) q1 rfl)
theorem w_or {r : List Expr} (ha : ST X T C W a ia) (hb : SW X T C W (.BoolOp .Or (b :: r) pos) ib) : SW X T C W (.BoolOp .Or (a :: b :: r) pos) (.or ia ib) := by
  refine imW (pw_or ha hb) fun σ H Q hh => ?_
  obtain ⟨env, m, rfl, er, o⟩ := hh
  refine ⟨env, m, rfl, er, (OutG.bind (R := BoR) (R' := BoR) (r := (sem C ia).t env m.S) o).imp ?_⟩
  rintro y H1 ⟨u, m1, f1, rfl, rfl, q1⟩
  cases u with
  | true => exact iteT (OutG.get (R' := BoR) q1 rfl)
  | false => exact iteF ⟨env, m1, rfl, er.mono f1, q1⟩
theorem t_not (ha : ST X T C W a ia) : ST X T C W (.UnaryOp .Not a pos) (.not ia) := by
  refine imT (pt_not ha) fun σ H Q hh => ?_
  obtain ⟨env, m, rfl, er, o⟩ := hh
  refine ⟨env, m, rfl, er, (OutG.bind (R := BoR) (R' := BoR) (r := (sem C ia).t env m.S) o).imp ?_⟩
  rintro y H1 ⟨u, m1, f1, rfl, rfl, q1⟩
  exact OutG.get (R' := BoR) q1 rfl
theorem s_ife (hc : ST X T C W c ic) (ha : SE X T C W a ia) (hb : SE X T C W b ib) : SE X T C W (.IfExp c a b pos) (.ife ic ia ib) := by
  refine imE (pe_ifExp hc ha hb) fun σ H Q hh => ?_
  obtain ⟨env, m, rfl, er, o⟩ := hh
  refine ⟨env, m, rfl, er, (OutG.bind (R := BoR) (R' := VR X.K) (r := (sem C ic).t env m.S) o).imp ?_⟩
  rintro y H1 ⟨u, m1, f1, rfl, rfl, q1⟩
  cases u with
  | true => exact iteT ⟨env, m1, rfl, er.mono f1, q1⟩
  | false => exact iteF ⟨env, m1, rfl, er.mono f1, q1⟩
theorem s_sub (hu : X.A.units + 65 < cLine) (ha : SE X T C W a ia) (hb : SE X T C W b ib) (hs : PlainIx b := by exact fun _ _ => rfl) : SE X T C W (.Subscript a b pos) (.sub ia ib) :=
  imE (pe_ix (x_sub hu) ha hb hs) fun σ H Q h => two_ h
theorem s_onone : SO X T C W none none := imO po_none fun σ H Q ⟨env, m, e, er, o⟩ => by subst e; exact OutG.get (R' := OiR) o rfl
theorem s_osome (ha : SE X T C W a ia) : SO X T C W (some a) (some ia) := by
  refine imO (po_some ha) fun σ H Q hh => ?_
  obtain ⟨env, m, rfl, er, o⟩ := hh
  refine ⟨env, m, rfl, er, (OutG.bind (R := VR X.K) (R' := OiR) (r := (sem C ia).v env m.S) o).imp ?_⟩
  rintro y H1 ⟨u, m1, f1, rfl, hv, q1⟩
  split at q1
  · rename_i i
    cases Dr.int_inv hv
    exact ⟨i, rfl, OutG.get (R' := OiR) q1 rfl⟩
  · exact q1.elim
theorem s_slc {lo hi : Option Expr} {il ih : Option E} {p2 : Pos} (ha : SE X T C W a ia) (hl : SO X T C W lo il) (hh : SO X T C W hi ih) : SE X T C W (.Subscript a (.Slice lo hi none p2) pos) (.slc ia il ih) := by
  refine imE (pe_slice (x_slc (T := T)) ha hl hh) fun σ H Q hh => ?_
  obtain ⟨env, m, rfl, er, o⟩ := hh
  refine ⟨env, m, rfl, er, (OutG.bind (R := VR X.K) (R' := VR X.K) (r := (sem C ia).v env m.S) o).imp ?_⟩
  rintro y H1 ⟨u, m1, f1, rfl, hv, q1⟩
  refine ⟨env, m1, rfl, er.mono f1, (OutG.bind (R := OiR) (R' := VR X.K) (r := part (semO C il) env m1.S) q1).imp ?_⟩
  rintro l H2 ⟨l', m2, f2, rfl, rfl, q2⟩
  refine ⟨env, m2, rfl, (er.mono f1).mono f2, (OutG.bind (R := OiR) (R' := VR X.K) (r := part (semO C ih) env m2.S) q2).imp ?_⟩
  rintro h H3 ⟨h', m3, f3, rfl, rfl, q3⟩
  exact ⟨m3, u, rfl, hv.mono (f2.trans f3), OutD.of q3⟩
end
end Itp

set_option Elab.async false
set_option linter.all false
set_option autoImplicit false
set_option maxRecDepth 100000
set_option maxHeartbeats 4000000
/-! Turned sequences, calls. -/
namespace Itp
open PySem L2 PyProof.Rows
section
variable {prog : Program} {w : World} {A : Around} {E : Value → Shared → Prop} {s : Shared}
theorem places_back (n : Nat) : Builtin.Slice.slicePlaces ((n : Int) - 1) (-1) (-1) = n := by
  unfold Builtin.Slice.slicePlaces
  have h1 : ¬ ((-1 : Int) > 0) := by omega
  rw [if_neg h1]
  have h2 : (-(-1 : Int)) = 1 := by omega
  rw [h2, Int.ediv_one]
  split <;> omega
theorem fm_congr {α β : Type} {f g : α → Option β} : ∀ (l : List α), (∀ k ∈ l, f k = g k) → l.filterMap f = l.filterMap g
  | [], _ => rfl
  | x :: r, h => by rw [List.filterMap_cons, List.filterMap_cons, h x List.mem_cons_self, fm_congr r fun k hk => h k (List.mem_cons_of_mem _ hk)]
theorem pick_back (xs : Array Value) : ((List.range xs.size).filterMap fun (k : Nat) => xs[(((xs.size : Int) - 1) + (k : Int) * (-1)).toNat]?).toArray = xs.toList.reverse.toArray := by
  congr 1
  have e : ((List.range xs.size).filterMap fun (k : Nat) => xs[(((xs.size : Int) - 1) + (k : Int) * (-1)).toNat]?) = ((List.range xs.size).map fun k => xs.size - 1 - k).filterMap (xs[·]?) := by
    rw [List.filterMap_map]
    refine fm_congr _ fun k hk => ?_
    have := List.mem_range.mp hk
    have e : (((xs.size : Int) - 1) + (k : Int) * (-1)).toNat = xs.size - 1 - k := by omega
    show xs[_]? = xs[_]?
    rw [e]
  rw [e, PySem.W.krv_range, List.filterMap_reverse, PySem.W.krv_all]
theorem sliceApplied_back {sl : Addr} {vl vu vk : Value} {n : Nat} {Q : Int × Int × Nat → Shared → Prop} (hs : s.heap.IsSliceOf sl vl vu vk) (pl : IsPart vl none) (pu : IsPart vu none) (pk : IsPart vk (some (-1)))
    (h : Q ((n : Int) - 1, -1, n) s) : wpAny (model prog w) A (Builtin.Slice.sliceApplied (.ref sl) (pure (n : Int))) Q E s := by
  obtain ⟨os, hos, hcs, hds⟩ := id hs
  unfold Builtin.Slice.sliceApplied Builtin.Slice.sliceFields
  refine wpAny_bind (wpAny_bind (wpAny_field hos hds (x := vl) rfl (wpAny_bind (wpAny_field hos hds (x := vu) rfl (wpAny_bind (wpAny_field hos hds (x := vk) rfl (wpAny_pure ?_)))))))
  refine wpAny_bind (HT.slicePart_ pk ?_)
  show wpAny _ _ (if ((-1 : Int) == 0) = true then _ else _) _ _ s
  rw [if_neg (by decide)]
  refine wpAny_bind (HT.slicePart_ pl (wpAny_bind (HT.slicePart_ pu (wpAny_bind (wpAny_pure ?_)))))
  show wpAny _ _ (pure (((n : Int) - 1), (-1 : Int), Builtin.Slice.slicePlaces ((n : Int) - 1) (-1) (-1))) _ _ s
  rw [places_back]
  exact wpAny_pure h
theorem getItem_tuple_back {t sl : Addr} {items : Array Value} {vl vu vk : Value} {Q : Value → Shared → Prop} (ht : IsTup s.heap t items) (hs : s.heap.IsSliceOf sl vl vu vk) (pl : IsPart vl none) (pu : IsPart vu none) (pk : IsPart vk (some (-1)))
    (h : Q (.ref s.heap.objs.size) { s with heap := s.heap.push { cls := .type "tuple", data := .seq items.toList.reverse.toArray } })
    (hsz : items.size ≤ sizeLine) : wpAny (model prog w) A (getItem (.ref t) (.ref sl)) Q E s := by
  have htake : sizeOk (.seq items.toList.reverse.toArray) := by
    show items.toList.reverse.toArray.size ≤ sizeLine
    rw [List.size_toArray, List.length_reverse, Array.length_toList]
    exact hsz
  obtain ⟨os, hos, hcs, hds⟩ := id hs
  have hTs : s.TypeIs (.ref sl) "slice" := ⟨os, hos, hcs⟩
  unfold getItem
  try with_reducible refine wpAny_holding ?_
  first | refine wpAny_bind (wpAny_pure ?_) | skip
  refine wpAny_bind (wpAny_sequenceKey ht.typeIs (by decide) ?_)
  refine wpAny_bind (wpAny_callSpecial?_slot (name := Str.ofString "__getitem__") ht.typeIs PyProof.Rows.slot_tuple_getitem
    (wpAny_call_entry PyProof.Rows.slot_tuple_getitem ht.typeIs entry_tuple_getitem ?_ (args_tuple_getitem _ _)))
  show wpAny _ _ (Builtin.Tuple.tupleItemsOf (.ref t) >>= _) _ _ s
  refine wpAny_bind (tupleItemsOf_ ht ?_)
  refine wpAny_bind (wpAny_typeOf hTs ?_)
  rw [if_pos (by decide)]
  refine wpAny_bind (m := Builtin.Slice.sliceApplied _ _) ?_
  refine sliceApplied_back hs pl pu pk ?_
  show wpAny _ _ (if ((((items.size : Nat) : Int) - 1) == 0 && (-1 : Int) == 1 && items.size == items.size) = true then _ else _) _ _ s
  rw [if_neg (by simp), pick_back]
  first
    | exact wpAny_bind (m := Builtin.Tuple.tupleExact _) (wpAny_newObj_type (wpAny_pure ⟨_, rfl, wpAny_pure h⟩) htake)
    | exact wpAny_bind (m := Builtin.Tuple.tupleExact _) (wpAny_newObj_type (wpAny_bind (wpAny_pure (wpAny_pure ⟨_, rfl, wpAny_pure h⟩))) htake)
    | exact wpAny_bind (wpAny_bind (m := Builtin.Tuple.tupleExact _) (wpAny_newObj_type (wpAny_pure (wpAny_pure ⟨_, rfl, wpAny_pure h⟩)) htake))
    | exact wpAny_bind (wpAny_bind (m := Builtin.Tuple.tupleExact _) (wpAny_newObj_type (wpAny_pure ⟨_, rfl, wpAny_pure h⟩) htake))
end
section
variable {X : Cx} {T : Ct} {C : CallF} {W : WX} {a e : Expr} {ia : E}
theorem pe_rev {te : TE} {k : Nat} {p1 p2 p3 pos : Pos} (he : PE X e te) : PE X (.Subscript e (.Slice none none (some (.UnaryOp .USub (.Constant (.int 1) k p1) p2)) p3) pos) (fun σ H Q => te σ H fun x H1 => rD1 X.prog X.w T X.K (fun _ v => revD v) x H1 Q) := by
  refine ⟨fun pins s σ H Q I h => ?_⟩
  refine Subscript_ (thn (he.run pins s σ H _ I h) fun v s1 ⟨x, H1, I1, r1, q1⟩ => ?_)
  obtain ⟨m, a, rfl, va, o⟩ := q1
  have hst : PO X (some (.UnaryOp .USub (.Constant (.int 1) k p1) p2)) (tPart (tUn (rU fun i => .int (-i)) (tC (.int 1)))) := po_some (pe_un un_neg pe_int)
  refine wpAny_Slice (thn (po_none.run pins s1 σ m.H (fun o H2 => o = none ∧ H2 = m.H) I1 ⟨rfl, rfl⟩) fun vl s2 ⟨l, H2, I2, pl, el, e2⟩ => ?_)
  subst el e2
  refine thn (po_none.run pins s2 σ m.H (fun o H3 => o = none ∧ H3 = m.H) I2 ⟨rfl, rfl⟩) fun vu s3 ⟨u, H3, I3, pu, eu, e3⟩ => ?_
  subst eu e3
  refine thn (hst.run pins s3 σ m.H (fun o H4 => o = some (-1) ∧ H4 = m.H) I3 ⟨1, rfl, -1, rfl, rfl, rfl⟩) fun vs s4 ⟨oo, H4, I4, ps, eo, e4⟩ => ?_
  subst eo e4
  have I5 : Inv X pins σ m.H { s4 with heap := s4.heap.push { cls := .type "slice", data := .fields #[vl, vu, vs] } } := I4.kept (t' := s4.toks) fun b ob q => Heap.get?_push_of_some _ q
  replace o : OutD m (revD a) Q := o
  unfold revD at o
  split at o
  · obtain ⟨p, xs, rfl, h1, n1, d1⟩ := Dr.tup_inv va
    cases r1
    obtain ⟨its, r, ht, hz⟩ := I5.tuple (sqT h1)
    have hlen := r.length
    show wpAny (model X.prog X.w) X.A (subscriptTail e (.Slice none none (some (.UnaryOp .USub (.Constant (.int 1) k p1) p2)) p3) (.ref p) (.ref s4.heap.objs.size)) (EP X pins σ Q) X.xe { s4 with heap := s4.heap.push { cls := .type "slice", data := .fields #[vl, vu, vs] } }
    refine tail_any (ops := [.ref p, .ref s4.heap.objs.size]) ht.typeIs (PyProof.Rows.slot_tuple_getitem.lookup) ?_ (by with_unfolding_all rfl)
    refine getItem_tuple_back ht (Heap.IsSliceOf.new _ vl vu vs) pl pu ps ?_ (by rw [List.size_toArray]; omega)
    exact ep_tup (t := s4.toks) I5 o d1.reverse r.reverse (by rw [List.length_reverse]; exact hz)
  · obtain ⟨p, xs, rfl, h1, n1, d1⟩ := Dr.lst_inv va
    cases r1
    obtain ⟨its, r, ht, hz⟩ := I5.list (SqL.of h1)
    have hlen := r.length
    show wpAny (model X.prog X.w) X.A (subscriptTail e (.Slice none none (some (.UnaryOp .USub (.Constant (.int 1) k p1) p2)) p3) (.ref p) (.ref s4.heap.objs.size)) (EP X pins σ Q) X.xe { s4 with heap := s4.heap.push { cls := .type "slice", data := .fields #[vl, vu, vs] } }
    refine tail_any (ops := [.ref p, .ref s4.heap.objs.size]) ht.isList.typeIs (PySem.slot_list_getitem.lookup) ?_ (by with_unfolding_all rfl)
    refine wpAny_getItem_list_slice ht.isList (Heap.IsSliceOf.new _ vl vu vs) pl pu ps (by decide) ?_ (by rw [List.size_toArray]; omega)
    rw [PySem.W.krv_pick]
    refine ⟨.ref _, _, I5.laid (t' := s4.toks) (o := .lst xs.reverse) (fun b ob q => Heap.get?_push_of_some _ q) (Nat.le_refl _) ?_, rfl, o.new (dr_newL d1.reverse) _ (I5.hok.fresh (Nat.le_refl _))⟩
    exact ⟨by rw [List.length_reverse]; exact hz, _, 0, r.reverse, Heap.get?_push_size _ rfl⟩
  · exact o.elim
theorem s_rev {k : Nat} {p1 p2 p3 pos : Pos} (ha : SE X T C W a ia) : SE X T C W (.Subscript a (.Slice none none (some (.UnaryOp .USub (.Constant (.int 1) k p1) p2)) p3) pos) (.rev ia) :=
  imE (pe_rev (T := T) ha) fun σ H Q h => one_ h
end
end Itp

set_option Elab.async false
set_option linter.all false
set_option autoImplicit false
set_option maxRecDepth 100000
set_option maxHeartbeats 4000000
/-! Calls of built-in things, methods of built-in types. -/
namespace Itp
open PySem L2
section
variable {P : Program} {w : World} {T : Ct} {K : PySem.W.Frag} {W : WX} {σ : St} {H : Hp} {Q : VK}
theorem oneA {md : Md} {f : Sto → Vl → Option D} (h : tE P w T K (fun env S => (md.v env S).bind fun x S => ofO S (f S x)) W σ H Q) :
    tA P w T K (vals [md]) W σ H fun xs H1 => rDs P w T K (f1 f) xs H1 Q := by
  obtain ⟨env, m, e, er, o⟩ := h
  refine ⟨env, m, e, er, ?_⟩
  show OutG (VRs K) W σ m ((md.v env m.S).bind fun x S => .ok [x] S) _
  replace o : OutG (VR K) W σ m ((md.v env m.S).bind fun x S => ofO S (f S x)) Q := o
  cases hr : md.v env m.S with
  | ok a S =>
    rw [hr] at o
    rintro b m1 f1 rfl vb
    exact ⟨m1, [a], rfl, vb, OutD.of (K := K) (W := W) (σ := σ) (OutG.fut f1 o)⟩
  | ex c fs S => rw [hr] at o; exact o
  | er => rw [hr] at o; exact o
theorem twoA {md nd : Md} {f : Sto → Vl → Vl → Option D} (h : tE P w T K (fun env S => (md.v env S).bind fun x S => (nd.v env S).bind fun y S => ofO S (f S x y)) W σ H Q) :
    tA P w T K (vals [md, nd]) W σ H fun xs H1 => rDs P w T K (f2 f) xs H1 Q := by
  obtain ⟨env, m, e, er, o⟩ := h
  refine ⟨env, m, e, er, ?_⟩
  replace o : OutG (VR K) W σ m ((md.v env m.S).bind fun x S => (nd.v env S).bind fun y S => ofO S (f S x y)) Q := o
  show OutG (VRs K) W σ m ((md.v env m.S).bind fun x S => ((nd.v env S).bind fun y S => .ok [y] S).bind fun xs S => .ok (x :: xs) S) _
  cases hr : md.v env m.S with
  | ok a S =>
    rw [hr] at o
    show OutG (VRs K) W σ m (((nd.v env S).bind fun y S => .ok [y] S).bind fun xs S => .ok (a :: xs) S) _
    replace o : OutG (VR K) W σ m ((nd.v env S).bind fun y S => ofO S (f S a y)) Q := o
    cases hq : nd.v env S with
    | ok b S' =>
      rw [hq] at o
      rintro bs m1 g1 rfl vb
      exact ⟨m1, [a, b], rfl, vb, OutD.of (K := K) (W := W) (σ := σ) (OutG.fut g1 o)⟩
    | ex c fs S => rw [hq] at o; exact o
    | er => rw [hq] at o; exact o
  | ex c fs S => rw [hr] at o; exact o
  | er => rw [hr] at o; exact o
end
section
variable {X : Cx} {T : Ct} {C : CallF} {W : WX} {a b e o : Expr} {es : List Expr} {ia ib ie io : E} {is : List E} {x : Str} {p pos : Pos} {id : String}
theorem s_callB {bb : B1} (hc : CallR X (.builtin id) (rB1 X T bb)) (hv : bootBuiltins x = some (.builtin id)) (hg : Gl X x) (hm : X.mg x = none) (ha : SE X T C W a ia) (hn : x ≠ "__name__" := by decide) (hdb : (x == ("__debug__" : Str)) = false := by decide)
    (he : starEach [a] X.env = (false, eval a X.env) :: starEach [] X.env := by rfl) : SE X T C W (.Call (.Name x p) [a] [] pos) (.b1 bb ia) :=
  imE (pe_callB hc hg hm hv (s_acons ha s_anil he) hn hdb he rfl) fun _ _ _ h => oneA h
theorem s_callT {bb : B1} (hc : CallR X (.type id) (rB1 X T bb)) (hv : bootBuiltins x = some (.type id)) (hg : Gl X x) (hm : X.mg x = none) (ha : SE X T C W a ia) (hn : x ≠ "__name__" := by decide) (hdb : (x == ("__debug__" : Str)) = false := by decide)
    (he : starEach [a] X.env = (false, eval a X.env) :: starEach [] X.env := by rfl) : SE X T C W (.Call (.Name x p) [a] [] pos) (.b1 bb ia) :=
  imE (pe_callTy hc hg hm hv (s_acons ha s_anil he) hn hdb he rfl) fun _ _ _ h => oneA h
theorem s_callB2 {bb : B2} (hc : CallR X (.builtin id) (rB2 X T bb)) (hv : bootBuiltins x = some (.builtin id)) (hg : Gl X x) (hm : X.mg x = none) (ha : SE X T C W a ia) (hb : SE X T C W b ib) (hn : x ≠ "__name__" := by decide) (hdb : (x == ("__debug__" : Str)) = false := by decide)
    (he : starEach [a, b] X.env = (false, eval a X.env) :: starEach [b] X.env := by rfl) (he2 : starEach [b] X.env = (false, eval b X.env) :: starEach [] X.env := by rfl) (hpl : (backTo pos (starEach [b] X.env)).any (·.1) = false := by rfl) : SE X T C W (.Call (.Name x p) [a, b] [] pos) (.b2 bb ia ib) :=
  imE (pe_callB hc hg hm hv (s_acons ha (s_acons hb s_anil he2) he) hn hdb he hpl) fun _ _ _ h => twoA h
abbrev s_len (hg : Gl X "len") (hm : X.mg "len" = none) (ha : SE X T C W a ia) (he : starEach [a] X.env = (false, eval a X.env) :: starEach [] X.env := by rfl) : SE X T C W (.Call (.Name "len" p) [a] [] pos) (.b1 .len ia) := s_callB k_len PySem.boot_len hg hm ha (he := he)
theorem s_tuple (hg : Gl X "tuple") (hm : X.mg "tuple" = none) (ha : SE X T C W a ia) (he : starEach [a] X.env = (false, eval a X.env) :: starEach [] X.env := by rfl) : SE X T C W (.Call (.Name "tuple" p) [a] [] pos) (.b1 .tuple ia) := s_callT k_tuple PyProof.Rows.boot_tuple hg hm ha (he := he)
theorem s_list (hc : X.calm = true) (hg : Gl X "list") (hm : X.mg "list" = none) (ha : SE X T C W a ia) (he : starEach [a] X.env = (false, eval a X.env) :: starEach [] X.env := by rfl) : SE X T C W (.Call (.Name "list" p) [a] [] pos) (.b1 .list ia) := s_callT (k_list hc) PyProof.Rows.boot_list hg hm ha (he := he)
theorem s_intc (hg : Gl X "int") (hm : X.mg "int" = none) (ha : SE X T C W a ia) (he : starEach [a] X.env = (false, eval a X.env) :: starEach [] X.env := by rfl) : SE X T C W (.Call (.Name "int" p) [a] [] pos) (.b1 .int ia) := s_callT k_int PyProof.Rows.boot_int hg hm ha (he := he)
theorem s_min2 (hc : X.calm = true) (hg : Gl X "min") (hm : X.mg "min" = none) (ha : SE X T C W a ia) (hb : SE X T C W b ib)
    (he : starEach [a, b] X.env = (false, eval a X.env) :: starEach [b] X.env := by rfl) (he2 : starEach [b] X.env = (false, eval b X.env) :: starEach [] X.env := by rfl) (hpl : (backTo pos (starEach [b] X.env)).any (·.1) = false := by rfl) : SE X T C W (.Call (.Name "min" p) [a, b] [] pos) (.b2 .min ia ib) := s_callB2 (k_min2 hc) PyProof.Rows.boot_min hg hm ha hb (he := he) (he2 := he2) (hpl := hpl)
theorem s_max2 (hc : X.calm = true) (hg : Gl X "max") (hm : X.mg "max" = none) (ha : SE X T C W a ia) (hb : SE X T C W b ib)
    (he : starEach [a, b] X.env = (false, eval a X.env) :: starEach [b] X.env := by rfl) (he2 : starEach [b] X.env = (false, eval b X.env) :: starEach [] X.env := by rfl) (hpl : (backTo pos (starEach [b] X.env)).any (·.1) = false := by rfl) : SE X T C W (.Call (.Name "max" p) [a, b] [] pos) (.b2 .max ia ib) := s_callB2 (k_max2 hc) PyProof.Rows.boot_max hg hm ha hb (he := he) (he2 := he2) (hpl := hpl)
/-! ### isinstance -/
theorem s_isi {ty : Ty} {cv : V} {u : Value} (hg : Gl X "isinstance") (hm : X.mg "isinstance" = none) (ha : SE X T C W a ia) (hb : PE X b (tC cv)) (ht : ty.is T X.K cv u)
    (he : starEach [a, b] X.env = (false, eval a X.env) :: starEach [b] X.env := by rfl) (he2 : starEach [b] X.env = (false, eval b X.env) :: starEach [] X.env := by rfl) (hpl : (backTo pos (starEach [b] X.env)).any (·.1) = false := by rfl) : SE X T C W (.Call (.Name "isinstance" p) [a, b] [] pos) (.isi ia ty) := by
  refine imE (pe_callB (k_isi (T := T) (ty := ty)) hg hm PyProof.Rows.boot_isinstance (pa_cons ha (pa_cons hb pa_nil he2) he) (by decide) (by decide) he hpl) fun σ H Q h => ?_
  obtain ⟨env, m, e, er, o⟩ := h
  refine ⟨env, m, e, er, (OutG.bind (R := VR X.K) (R' := VR X.K) (r := (sem C ia).v env m.S) o).imp ?_⟩
  rintro y H1 ⟨u', m1, f1, rfl, hv, q1⟩
  exact ⟨y, cv, u, m1, u', rfl, ht, rfl, hv, OutD.ofB q1⟩
theorem s_tyB {N : String} (hg : Gl X x) (hm : X.mg x = none) (hv : bootBuiltins x = some (.type N)) (hn : x ≠ "__name__" := by decide) (hd : (x == ("__debug__" : Str)) = false := by decide) : PE X (.Name x p) (tC (.ty N)) := pe_bltn (v := .ty N) hg hm hv rfl hn hd
theorem s_isi_int {q : Pos} (hg : Gl X "isinstance") (hm : X.mg "isinstance" = none) (hg2 : Gl X "int") (hm2 : X.mg "int" = none) (ha : SE X T C W a ia)
    (he : starEach [a, .Name "int" q] X.env = (false, eval a X.env) :: starEach [.Name "int" q] X.env := by rfl) : SE X T C W (.Call (.Name "isinstance" p) [a, .Name "int" q] [] pos) (.isi ia .int) := s_isi hg hm ha (s_tyB hg2 hm2 PyProof.Rows.boot_int) (u := .type "int") ⟨rfl, rfl⟩ he
theorem s_isi_bool {q : Pos} (hg : Gl X "isinstance") (hm : X.mg "isinstance" = none) (hg2 : Gl X "bool") (hm2 : X.mg "bool" = none) (ha : SE X T C W a ia)
    (he : starEach [a, .Name "bool" q] X.env = (false, eval a X.env) :: starEach [.Name "bool" q] X.env := by rfl) : SE X T C W (.Call (.Name "isinstance" p) [a, .Name "bool" q] [] pos) (.isi ia .bool) := s_isi hg hm ha (s_tyB hg2 hm2 PyProof.Rows.boot_bool) (u := .type "bool") ⟨rfl, rfl⟩ he
theorem s_isi_str {q : Pos} (hg : Gl X "isinstance") (hm : X.mg "isinstance" = none) (hg2 : Gl X "str") (hm2 : X.mg "str" = none) (ha : SE X T C W a ia)
    (he : starEach [a, .Name "str" q] X.env = (false, eval a X.env) :: starEach [.Name "str" q] X.env := by rfl) : SE X T C W (.Call (.Name "isinstance" p) [a, .Name "str" q] [] pos) (.isi ia .str) := s_isi hg hm ha (s_tyB hg2 hm2 PyProof.Rows.boot_str) (u := .type "str") ⟨rfl, rfl⟩ he
theorem s_isi_list {q : Pos} (hg : Gl X "isinstance") (hm : X.mg "isinstance" = none) (hg2 : Gl X "list") (hm2 : X.mg "list" = none) (ha : SE X T C W a ia)
    (he : starEach [a, .Name "list" q] X.env = (false, eval a X.env) :: starEach [.Name "list" q] X.env := by rfl) : SE X T C W (.Call (.Name "isinstance" p) [a, .Name "list" q] [] pos) (.isi ia .list) := s_isi hg hm ha (s_tyB hg2 hm2 PyProof.Rows.boot_list) (u := .type "list") ⟨rfl, rfl⟩ he
theorem s_isi_tuple {q : Pos} (hg : Gl X "isinstance") (hm : X.mg "isinstance" = none) (hg2 : Gl X "tuple") (hm2 : X.mg "tuple" = none) (ha : SE X T C W a ia)
    (he : starEach [a, .Name "tuple" q] X.env = (false, eval a X.env) :: starEach [.Name "tuple" q] X.env := by rfl) : SE X T C W (.Call (.Name "isinstance" p) [a, .Name "tuple" q] [] pos) (.isi ia .tuple) := s_isi hg hm ha (s_tyB hg2 hm2 PyProof.Rows.boot_tuple) (u := .type "tuple") ⟨rfl, rfl⟩ he
theorem s_isi_cls {c : Nat} {q : Pos} (hg : Gl X "isinstance") (hm : X.mg "isinstance" = none) (hg2 : Gl X x) (hm2 : X.mg x = some (.ref (T.ca c))) (cf : ClsF X.K (T.ca c)) (ha : SE X T C W a ia)
    (hd : (x == ("__debug__" : Str)) = false := by decide) (he : starEach [a, .Name x q] X.env = (false, eval a X.env) :: starEach [.Name x q] X.env := by rfl) : SE X T C W (.Call (.Name "isinstance" p) [a, .Name x q] [] pos) (.isi ia (.cls c)) :=
  s_isi hg hm ha (pe_glob (v := .ref (T.ca c)) hg2 hm2 rfl hd) (u := .ref (T.ca c)) ⟨rfl, rfl, cf⟩ he
/-! ### methods -/
def tyL : V → Hp → Prop := fun x H => ∃ p xs, x = .ref p ∧ H p = some (.lst xs)
def tyT : V → Hp → Prop := fun x H => ∃ p o xs, x = .ref p ∧ H p = some (.frz o (.tup xs)) ∧ o.dict = none
theorem tyL_ok : TyP X "list" tyL := by
  rintro pins s σ H x v I r ⟨p, xs, rfl, h⟩
  cases r
  obtain ⟨_, its, n, _, e⟩ := I.hok _ _ h
  exact ⟨⟨_, e, rfl⟩, fun a ea => by cases ea; exact ⟨_, e, rfl⟩⟩
theorem tyT_ok : TyP X "tuple" tyT := by
  rintro pins s σ H x v I r ⟨p, o, xs, rfl, h, ho⟩
  cases r
  obtain ⟨e, _, its, _, ht⟩ := I.hok _ _ h
  obtain ⟨o', e', ec, _⟩ := ht
  rw [e] at e'
  cases e'
  exact ⟨⟨_, e, ec⟩, fun a ea => by cases ea; exact ⟨_, e, ho⟩⟩
theorem mth_out {σ : St} {H : Hp} {mt : Mt} {ty : V → Hp → Prop} (hty : ∀ (m : Mem X.prog X.w T) (u : Vl) (y : V), VR X.K m u y → recvOk m.S mt u = true → ty y m.H) {Q : VK}
    (h : tE X.prog X.w T X.K (sem C (.mth mt io is)).v W σ H Q) :
    tE X.prog X.w T X.K (sem C io).v W σ H fun y H1 => ty y H1 ∧ tA X.prog X.w T X.K (vals (sems C is)) W σ H1 fun ys H2 => rM X T mt y ys H2 Q := by
  obtain ⟨env, m, e, er, oo⟩ := h
  refine ⟨env, m, e, er, (OutG.bind (R := VR X.K) (R' := VR X.K) (r := (sem C io).v env m.S) oo).imp ?_⟩
  rintro y H1 ⟨u, m1, f1, rfl, hv, q1⟩
  split at q1
  · rename_i hr
    refine ⟨hty m1 u y hv hr, env, m1, rfl, er.mono f1, (OutG.bind (R := VRs X.K) (R' := VR X.K) (r := vals (sems C is) env m1.S) q1).imp ?_⟩
    rintro ys H2 ⟨us, m2, f2, rfl, hvs, q2⟩
    exact ⟨m2, u, us, W, σ, rfl, hv.mono f2, hvs, q2⟩
  · exact q1.elim
theorem recvL {m : Mem X.prog X.w T} {mt : Mt} {u : Vl} {y : V} (hm : mt = .append ∨ mt = .extend ∨ mt = .pop ∨ mt = .popAt ∨ mt = .reverse ∨ mt = .countL ∨ mt = .index) (hv : VR X.K m u y) (h : recvOk m.S mt u = true) : tyL y m.H := by
  have h' : (asLst m.S u).isSome = true := by
    rcases hm with rfl | rfl | rfl | rfl | rfl | rfl | rfl <;> cases u <;> exact h
  cases e : asLst m.S u with
  | none => rw [e] at h'; cases h'
  | some ds =>
    obtain ⟨p, xs, rfl, h1, _⟩ := lst_of hv e
    exact ⟨p, xs, rfl, h1⟩
theorem recvT {m : Mem X.prog X.w T} {u : Vl} {y : V} (hv : VR X.K m u y) (h : recvOk m.S .countT u = true) : tyT y m.H := by
  have : ∃ xs, u = .d (.tuple xs) := by
    cases u with
    | d x => cases x <;> first | exact ⟨_, rfl⟩ | cases h
    | r n => cases h
    | s n => cases h
    | x n k => cases h
  obtain ⟨xs0, rfl⟩ := this
  obtain ⟨p, xs, rfl, ⟨o, ho, h1⟩, _⟩ := Dr.tup_inv hv
  exact ⟨p, o, xs, rfl, h1, ho⟩
section
variable {mt : Mt} {name : Str} {apos cpos : Pos}
theorem s_mthL (hm : mt = .append ∨ mt = .extend ∨ mt = .pop ∨ mt = .popAt ∨ mt = .reverse ∨ mt = .countL ∨ mt = .index) (slot : Slot "list" name id) (hty : typeOf (.builtin id) = pure (.type "method_descriptor")) (hr : MtR X id (rM X T mt)) (ho : SE X T C W o io) (ha : SA X T C W (e :: es) is)
    (hbase : attributeBase o name X.env (eval o X.env) = eval o X.env := by rfl)
    (hfew : ((backTo cpos (starEach (e :: es) X.env)).all (fun x => !x.1) && (backToKw cpos (keywordEach [] X.env)).all (fun x => x.1.isSome)
      && decide ((e :: es).length + ([] : List Keyword).length + (if ([] : List Keyword).isEmpty then 0 else 1) < 30)) = true := by rfl)
    (hline : (apos.endLine == cpos.line) = true := by rfl) (hs : starEach (e :: es) X.env = (false, eval e X.env) :: starEach es X.env := by rfl) (hplain : (backTo cpos (starEach es X.env)).any (·.1) = false := by rfl) :
    SE X T C W (.Call (.Attribute o name apos) (e :: es) [] cpos) (.mth mt io is) := by
  refine imE (pe_bmG tyL_ok PySem.F.plainAttrs_list slot hty hr ho ha hbase hfew hline hs hplain) fun σ H Q h => ?_
  exact mth_out (fun m u y hv hk => recvL hm hv hk) h
theorem s_mthL0 (hm : mt = .append ∨ mt = .extend ∨ mt = .pop ∨ mt = .popAt ∨ mt = .reverse ∨ mt = .countL ∨ mt = .index) (slot : Slot "list" name id) (hty : typeOf (.builtin id) = pure (.type "method_descriptor")) (hr : MtR X id (rM X T mt)) (ho : SE X T C W o io)
    (hbase : attributeBase o name X.env (eval o X.env) = eval o X.env := by rfl) (hline : (apos.endLine == cpos.line) = true := by rfl) :
    SE X T C W (.Call (.Attribute o name apos) [] [] cpos) (.mth mt io []) := by
  refine imE (pe_bmG0 tyL_ok PySem.F.plainAttrs_list slot hty hr ho hbase hline) fun σ H Q h => ?_
  obtain ⟨env, m, e1, er, o1⟩ := mth_out (fun m u y hv hk => recvL hm hv hk) h
  refine ⟨env, m, e1, er, o1.imp ?_⟩
  rintro y H1 ⟨t1, env2, m2, rfl, er2, o2⟩
  exact ⟨t1, OutG.get (R' := VRs X.K) o2 .nil⟩
theorem s_mthT (slot : Slot "tuple" name id) (hty : typeOf (.builtin id) = pure (.type "method_descriptor")) (hr : MtR X id (rM X T .countT)) (ho : SE X T C W o io) (ha : SA X T C W (e :: es) is)
    (hbase : attributeBase o name X.env (eval o X.env) = eval o X.env := by rfl)
    (hfew : ((backTo cpos (starEach (e :: es) X.env)).all (fun x => !x.1) && (backToKw cpos (keywordEach [] X.env)).all (fun x => x.1.isSome)
      && decide ((e :: es).length + ([] : List Keyword).length + (if ([] : List Keyword).isEmpty then 0 else 1) < 30)) = true := by rfl)
    (hline : (apos.endLine == cpos.line) = true := by rfl) (hs : starEach (e :: es) X.env = (false, eval e X.env) :: starEach es X.env := by rfl) (hplain : (backTo cpos (starEach es X.env)).any (·.1) = false := by rfl) :
    SE X T C W (.Call (.Attribute o name apos) (e :: es) [] cpos) (.mth .countT io is) := by
  refine imE (pe_bmG tyT_ok PySem.F.plainAttrs_tuple slot hty hr ho ha hbase hfew hline hs hplain) fun σ H Q h => ?_
  exact mth_out (fun m u y hv hk => recvT hv hk) h
end
end
end Itp

set_option Elab.async false
set_option linter.all false
set_option autoImplicit false
set_option maxRecDepth 100000
set_option maxHeartbeats 4000000
/-! Calls of own defs, instances, fields, properties. -/
namespace Itp
open PySem L2
section
variable (P : Program) (w : World) (K : PySem.W.Frag) (mg : Str → Option Value) (base : Heap) (T : Ct) (C : CallF)
/-- what a def promises: the interpreter's answer -/
def spI (f : Nat) : Sp := fun vs H Q E => ∃ (m : Mem P w T) (as : List Vl), m.H = H ∧ VRs K m as vs ∧ OutG (VR K) (fun c d _ H => E c d H) [] m (C f as m.S) Q
structure FnE (k f : Nat) (ad : Addr) : Prop where
  ok : ∃ (fd : FuncData) (ps : List Str), FnOk P w K mg base (L2.CX P w) k ad fd ps (spI P w K T C f) ∧ Binds K fd ps []
  kp : PySem.W.keepIn K (.ref ad) = true
end
def nmIx (f : Str) : List Str → Nat → Bool
  | [], _ => false
  | n :: _, 0 => decide (n = f)
  | n :: r, k + 1 => decide (n ≠ f) && nmIx f r k
section
variable {P : Program} {w : World} {K : PySem.W.Frag} {T : Ct}
theorem look_two {M : Addr → Prop} {H : Hp} {f : Str} {d : D} : ∀ {fs : List (Str × D)} {gs : List (Str × V)}, fs.lookup f = some d → fs.map (·.1) = gs.map (·.1) → DrAll P w T M H (fs.map (·.2)) (gs.map (·.2)) → ∃ v, gs.lookup f = some v ∧ Dr P w T M H d v
  | [], _, h, _, _ => by cases h
  | _ :: _, [], _, e, _ => by cases e
  | (a, x) :: r, (b, y) :: s, h, e, r1 => by
    injection e with e1 e2
    have e1 : a = b := e1
    subst e1
    rw [List.lookup_cons] at h ⊢
    cases r1 with
    | cons p q =>
      split at h
      · cases h
        exact ⟨y, rfl, p⟩
      · exact look_two h e2 q
theorem OutG.cv {α β : Type} {R : Mem P w T → α → β → Prop} {W W' : WX} {σ σ' : St} {m : Mem P w T} {r : Re α} {Q : β → Hp → Prop} (h : OutG R W σ m r Q) (k : ∀ c d H, W c d σ H → W' c d σ' H) : OutG R W' σ' m r Q := by
  cases r with
  | ok a S => exact h
  | ex c fs S => exact fun d m' g e x => k _ _ _ (h d m' g e x)
  | er => exact h
theorem nmIx_look {f : Str} : ∀ {fs : List (Str × V)} {ix : Nat}, nmIx f (fs.map (·.1)) ix = true → fs.lookup f = (fs.map (·.2))[ix]?
  | [], ix, h => by cases ix <;> cases h
  | (g, v) :: r, 0, h => by
    have e : g = f := of_decide_eq_true h
    subst e
    rw [List.lookup_cons, beq_self_eq_true]
    rfl
  | (g, v) :: r, ix + 1, h => by
    have h' : (decide (g ≠ f) && nmIx f (r.map (·.1)) ix) = true := h
    rw [Bool.and_eq_true] at h'
    have e : g ≠ f := of_decide_eq_true h'.1
    have e2 : (f == g) = false := beq_false_of_ne fun z => e z.symm
    rw [List.lookup_cons, e2, nmIx_look h'.2]
    rfl
theorem Dr.ins_inv {M : Addr → Prop} {H : Hp} {c' : Int} {r : List (D × D)} {v : V} (h : Dr P w T M H (.dict ((.none, .int c') :: r)) v) :
    ∃ (c : Nat) (ds : List D) (a dx : Addr) (fs : List (Str × V)), c' = (c : Int) ∧ r = ds.map (fun f => (PyData.none, f)) ∧ v = .ref a ∧ H a = some (.ins (T.ca c) dx fs) ∧ ¬ M a ∧ fs.map (·.1) = T.cf c ∧ DrAll P w T M H ds (fs.map (·.2)) := by
  generalize hd : (PyData.dict ((.none, .int c') :: r)) = d0 at h
  cases h with
  | non => cases hd
  | bl => cases hd
  | int => cases hd
  | str => cases hd
  | lst => cases hd
  | tup => cases hd
  | @ins a dx c fs ds d h1 n1 e1 a1 q =>
    subst hd
    unfold mkIns at q
    injection q with q
    injection q with q1 q2
    injection q1 with _ q1
    injection q1 with q1
    exact ⟨c, ds, a, dx, fs, q1, q2, rfl, h1, n1, e1, a1⟩
  | @dK a o kvs ds d h1 n1 a1 q =>
    subst hd
    injection q with q
    cases kvs with
    | nil => cases q
    | cons k s => cases ds with
      | nil => cases q
      | cons d s' =>
        injection q with q _
        injection q with q _
        obtain ⟨k, _⟩ := k
        cases k <;> cases q
  | @dN a o xs vs ds d h1 n1 b1 r1 a1 q =>
    subst hd
    injection q with q
    cases xs with
    | nil => cases q
    | cons k s => cases ds with
      | nil => cases q
      | cons d s' =>
        injection q with q _
        injection q with q _
        cases b1 with
        | cons p _ =>
          rw [show (fun q : NestedKey × Addr × Value => nD q.1) k = PyData.none from q.symm] at p
          generalize hd2 : PyData.none = d2 at p
          cases p with
          | lst => cases hd2
          | tup => cases hd2
          | ins _ _ _ _ q => subst hd2; cases q
          | dK _ _ _ q => subst hd2; cases q
          | dN _ _ _ _ _ q => subst hd2; cases q
/-- an instance, of the store or frozen -/
theorem insOf_inv {m : Mem P w T} {c : Nat} {u : Vl} {y : V} (hv : VR K m u y) (h : insOf m.S c u = true) : ∃ a dx gs, y = .ref a ∧ m.H a = some (.ins (T.ca c) dx gs) := by
  unfold insOf at h
  split at h
  · rename_i c' r
    have e : c' = (c : Int) := of_decide_eq_true h
    obtain ⟨c0, ds, a, dx, fs, e0, _, rfl, h1, _⟩ := Dr.ins_inv hv
    have : c = c0 := Int.ofNat.inj (e.symm.trans e0)
    subst this
    exact ⟨a, dx, fs, rfl, h1⟩
  · rename_i n
    split at h
    · rename_i c' fs hS
      have e : c' = c := of_decide_eq_true h
      subst e
      obtain ⟨p, hp, rfl⟩ := hv
      obtain ⟨dx, gs, h1, _⟩ := m.obj n p _ hp hS
      exact ⟨p.1, dx, gs, rfl, h1⟩
    · cases h
  · cases h
theorem Mem.cut_fut {m m' : Mem P w T} (f : Fut m m') {n : Nat} (h : m.S.length ≤ n) : Fut m (m'.cut n) := by
  refine ⟨fun j p hj => ?_, fun x o hx nx => ?_⟩
  · have hl := (List.getElem?_eq_some_iff.mp hj).1
    show (m'.φ.take n)[j]? = some p
    rw [List.getElem?_take_of_lt (by have := m.len; omega)]
    exact f.pre j p hj
  · obtain ⟨h1, h2⟩ := f.keep x o hx nx
    refine ⟨h1, fun z => h2 ?_⟩
    obtain ⟨i, q, u, a1, a2, a3, a4⟩ := z
    exact ⟨i, q, u, take_some a1, take_some a2, a3, a4⟩
theorem Mem.cut_keep (m : Mem P w T) (n : Nat) : ∀ x o, m.H x = some o → ¬ m.M x → (m.cut n).H x = some o ∧ ¬ (m.cut n).M x := fun x o hx nx => ⟨hx, fun z => nx (by
    obtain ⟨i, q, u, a1, a2, a3, a4⟩ := z
    exact ⟨i, q, u, take_some a1, take_some a2, a3, a4⟩)⟩
theorem ExR.cut {m : Mem P w T} {c : Nat} {fs : List D} {d : Option Addr} (n : Nat) (h : ExR (m.cut n) c fs d) : ExR (m.cut n) c fs d := h
end
section
variable {X : Cx} {T : Ct} {C : CallF} {W : WX} {a e o : Expr} {es : List Expr} {ia io : E} {is : List E} {x : Str} {p pos : Pos} {k f : Nat} {ad : Addr}
theorem s_call (F : FnE X.prog X.w X.K X.mg X.base T C k f ad) (hr : Room k X.A) (tk : Takes X W) (hg : Gl X x) (hm : X.mg x = some (.ref ad)) (ha : SA X T C W (e :: es) is)
    (hdb : (x == ("__debug__" : Str)) = false := by decide) (he : starEach (e :: es) X.env = (false, eval e X.env) :: starEach es X.env := by rfl) (hpl : (backTo pos (starEach es X.env)).any (·.1) = false := by rfl) :
    SE X T C W (.Call (.Name x p) (e :: es) [] pos) (.call f is) := by
  obtain ⟨fd, ps, ok, hb⟩ := F.ok
  refine imE (pe_callS (E := WE W) ok hr hg hm F.kp hb (passAt tk) ha hdb he hpl) fun σ H Q h => ?_
  obtain ⟨env, m, e1, er, oo⟩ := h
  refine ⟨env, m, e1, er, (OutG.bind (R := VRs X.K) (R' := VR X.K) (r := vals (sems C is) env m.S) oo).imp ?_⟩
  rintro ys H1 ⟨us, m1, f1, rfl, hv, q1⟩
  exact ⟨m1, us, rfl, hv, q1.cv fun c d H h => h⟩
/-! ### instances -/
theorem run_makeS {pins : List (Addr × Obj)} {σ : St} {H : Hp} {s : Shared} {Q : VK} {us : List Value} {vs : List V} {CX : CXT} {E : XK} {Cl : Addr} {fd : FuncData} {ps : List Str} {sp : Sp} (M : Mk X.K Cl ad) (ok : FnOk X.prog X.w X.K X.mg X.base CX k ad fd ps sp) (hr : Room (k + 1) X.A) (hb : Binds X.K fd ps [])
    (hx : PassesAt CX X σ E) (I : Inv X pins σ H s) (r : Vals vs us)
    (h : ∀ x dx, H x = none → H dx = none → dx ≠ x → sp (.ref x :: vs) (upd (upd H dx (.own x)) x (.ins Cl dx [])) (fun v H2 => v = .non ∧ Q (.ref x) H2) E) :
    wpAny (model X.prog X.w) X.A (call (.ref Cl) us) (EP X pins σ Q) X.xe s := by
  have q0 := h (s.heap.objs.size + 1) s.heap.objs.size (I.hok.fresh (Nat.le_succ _)) (I.hok.fresh (Nat.le_refl _)) (Nat.ne_of_lt (Nat.lt_succ_self _))
  have J := Inv.made (C := Cl) I
  have rr : Vals (V.ref (s.heap.objs.size + 1) :: vs) (Value.ref (s.heap.objs.size + 1) :: us) := .cons rfl r
  have hl : (Value.ref (s.heap.objs.size + 1) :: us).length = ps.length := by
    rw [← rr.length]
    exact ok.len _ _ _ _ q0
  have b := hb _ (Value.ref (s.heap.objs.size + 1) :: us) J.kIn (by rw [List.append_nil]; exact hl)
  rw [List.append_nil] at b
  refine wpAny_call (make_map (f := ad) I.kIn M.makes M.init (beq_iff_eq.mp M.fn) (codeAny_mono (ok.run _ X.stack _ _ ⟨Value.ref (s.heap.objs.size + 1) :: us, []⟩ _ _ _ E (hr.make Cl us []) (J.env0.make Cl us []) b rr q0) fun res s' z => ?_))
  cases res with
  | error er => exact hx pins _ _ er s' J z
  | ok fl =>
    cases fl with
    | ret u =>
      obtain ⟨v, H', I3, rv, ev, q3⟩ := J.after z
      subst ev
      exact ⟨rv, V.ref (s.heap.objs.size + 1), H', I3, rfl, q3⟩
    | next => exact z.elim
    | brk => exact z.elim
    | cont => exact z.elim
theorem s_mk {c : Nat} {fz : Option (List Str)} (M : Mk X.K (T.ca c) ad) (F : FnE X.prog X.w X.K X.mg X.base T C k f ad) (hr : Room (k + 1) X.A) (tk : Takes X W) (hg : Gl X x) (hm : X.mg x = some (.ref (T.ca c))) (hz : fz = none ∨ fz = some (T.cf c)) (ha : SA X T C W (e :: es) is)
    (hdb : (x == ("__debug__" : Str)) = false := by decide) (he : starEach (e :: es) X.env = (false, eval e X.env) :: starEach es X.env := by rfl) (hpl : (backTo pos (starEach es X.env)).any (·.1) = false := by rfl) :
    SE X T C W (.Call (.Name x p) (e :: es) [] pos) (.mk c f fz is) := by
  obtain ⟨fd, ps, ok, hb⟩ := F.ok
  refine ⟨fun pins s σ H Q I h => ?_⟩
  refine wpAny_Call_Name_kw (ld_glob I hg hm ?_ hdb)
  obtain ⟨env, m, rfl, er, oo⟩ := h
  have t1 : tA X.prog X.w T X.K (vals (sems C is)) W σ m.H fun ys H1 => ∃ (us : List Vl) (m1 : Mem X.prog X.w T), m1.H = H1 ∧ VRs X.K m1 us ys ∧ OutG (VR X.K) W σ m1 (made c m1.S.length fz (C f (.r m1.S.length :: us) (m1.S ++ [.ins c []]))) Q := by
    refine ⟨env, m, rfl, er, (OutG.bind (R := VRs X.K) (R' := VR X.K) (r := vals (sems C is) env m.S) oo).imp ?_⟩
    rintro ys H1 ⟨us, m1, f1, rfl, hv, q1⟩
    exact ⟨us, m1, rfl, hv, q1⟩
  refine PySem.W.callWith_K (h₀ := X.base) I.ok.mod.kin M.kp (thn (ha.run pos pins s σ m.H _ I t1) fun us s1 hh => ?_) he hpl
  obtain ⟨vs, H1, I1, r, as, m1, rfl, hv, q⟩ := hh
  refine ⟨I1.kIn, run_makeS (E := WE W σ) M ok hr hb (passAt tk σ) I1 r fun y dx hy hdx hne => ?_⟩
  -- the new object
  have kk : ∀ z u, m1.H z = some u → upd (upd m1.H dx (.own y)) y (.ins (T.ca c) dx []) z = some u := fun z u e1 => by
    rw [upd_ne (ne_of_none e1 hy), upd_ne (ne_of_none e1 hdx)]; exact e1
  have ty : (upd (upd m1.H dx (.own y)) y (.ins (T.ca c) dx []) y).isSome = true := by rw [upd_same]; rfl
  let m2 : Mem X.prog X.w T := m1.push (.ins c []) y y (upd (upd m1.H dx (.own y)) y (.ins (T.ca c) dx [])) hy hy kk ty ty rfl (fun _ _ => ⟨dx, [], upd_same, rfl, .nil⟩)
  have f2 : Fut m1 m2 := m1.push_fut (o := .ins c []) hy hy kk ty ty rfl (fun _ _ => ⟨dx, [], upd_same, rfl, .nil⟩)
  have at2 : m2.φ[m1.S.length]? = some (y, y) := by
    show (m1.φ ++ [(y, y)])[m1.S.length]? = _
    rw [← m1.len, List.getElem?_append_right (Nat.le_refl _), Nat.sub_self]
    rfl
  refine ⟨m2, .r m1.S.length :: as, rfl, .cons ⟨_, at2, rfl⟩ (hv.mono f2), ?_⟩
  show OutG (VR X.K) _ [] m2 (C f (.r m1.S.length :: as) (m1.S ++ [.ins c []])) _
  cases hc : C f (.r m1.S.length :: as) (m1.S ++ [.ins c []]) with
  | er => rw [hc] at q; exact q
  | ex c' fs S =>
    rw [hc] at q
    intro d m3 g3 e3 x3
    refine q d (m3.cut m1.S.length) (Mem.cut_fut (f2.trans g3) (Nat.le_refl _)) ?_ ?_
    · show m3.S.take _ = _
      rw [e3]
    · rcases x3 with ⟨a1, a2⟩ | ⟨a', gs, a1, a2, a3, a4, a5⟩
      · exact .inl ⟨a1, a2⟩
      · exact .inr ⟨a', gs, a1, a2, (m3.cut_keep _ a' _ a2 a3).2, a4, DrAll.mono (m3.cut_keep _) _ _ a5⟩
  | ok v S =>
    rw [hc] at q
    intro z m3 g3 e3 x3
    unfold made at q
    split at q
    · rename_i S' heq
      cases heq
      have ez : z = .non := Dr.non_inv x3
      refine ⟨ez, ?_⟩
      have at3 : m3.φ[m1.S.length]? = some (y, y) := g3.pre _ _ at2
      split at q
      · rename_i c' fs hS
        refine q (.ref y) (m3.cut (m1.S.length + 1)) (Mem.cut_fut (f2.trans g3) (Nat.le_succ _)) (by show m3.S.take _ = _; rw [e3]) ⟨(y, y), ?_, rfl⟩
        show (m3.φ.take _)[_]? = _
        rw [List.getElem?_take_of_lt (Nat.lt_succ_self _)]
        exact at3
      · rename_i ns c' fs hS
        split at q
        · rename_i hcond
          rw [Bool.and_eq_true] at hcond
          have ec : c' = c := of_decide_eq_true hcond.1
          have en : fs.map (·.1) = ns := of_decide_eq_true hcond.2
          have ens : ns = T.cf c := by rcases hz with z | z <;> cases z; rfl
          subst ec
          rw [← e3] at hS
          obtain ⟨dx', gs, h1, h2, h3⟩ := m3.obj _ _ _ at3 hS
          refine q (.ref y) (m3.cut m1.S.length) (Mem.cut_fut (f2.trans g3) (Nat.le_refl _)) (by show m3.S.take _ = _; rw [e3]) ?_
          have nM : ¬ (m3.cut m1.S.length).M y := by
            rintro ⟨i, q', u, b1, b2, b3, b4⟩
            have hi : i ≠ m1.S.length := by
              have := (List.getElem?_eq_some_iff.mp b1).1
              rw [show (m3.cut m1.S.length).φ = m3.φ.take m1.S.length from rfl, List.length_take] at this
              omega
            have ap := m3.apart i m1.S.length q' (y, y) hi (take_some b1) at3
            rcases b4 with b4 | b4
            · exact ap.1 b4.symm
            · exact ap.2.2.1 b4.symm
          exact .ins (c := c') (fs := gs) (ds := fs.map (·.2)) h1 nM (by rw [← h2, en, ens]) (DrAll.mono (m3.cut_keep _) _ _ h3) rfl
        · exact q.elim
      · exact q.elim
    · rename_i heq; cases heq
    · exact q.elim
/-! ### fields, properties -/
theorem s_fld {c ix : Nat} {fl : Str} (cl : Cls X.K (T.ca c)) (na : NoAttr X.K (T.ca c) fl) (hix : nmIx fl (T.cf c) ix = true) (ho : SE X T C W o io) (hb : attributeBase o fl X.env (eval o X.env) = eval o X.env := by rfl) :
    SE X T C W (.Attribute o fl pos) (.fld c ix fl io) := by
  refine imE (pe_fld ho hb) fun σ H Q h => ?_
  obtain ⟨env, m, rfl, er, oo⟩ := h
  refine ⟨env, m, rfl, er, (OutG.bind (R := VR X.K) (R' := VR X.K) (r := (sem C io).v env m.S) oo).imp ?_⟩
  rintro y H1 ⟨u, m1, f1, rfl, hv, q1⟩
  have o1 := OutD.of q1
  replace o1 : OutD m1 (fldD m1.S c ix fl u) Q := o1
  unfold fldD at o1
  split at o1
  · rename_i c' r
    split at o1
    · rename_i hc
      have e : c' = (c : Int) := of_decide_eq_true hc
      obtain ⟨c0, ds, a, dx, fs, e0, er', rfl, h1, _, e1, a1⟩ := Dr.ins_inv hv
      have : c = c0 := Int.ofNat.inj (e.symm.trans e0)
      subst this
      subst er'
      rw [List.getElem?_map, Option.map_map] at o1
      cases hd : ds[ix]? with
      | none => rw [hd] at o1; exact o1.elim
      | some d =>
        rw [hd] at o1
        obtain ⟨v, hv1, hv2⟩ := a1.get hd
        refine ⟨_, _, _, _, v, rfl, h1, cl, na, ?_, OutD.get o1 hv2⟩
        rw [nmIx_look (ix := ix) (by rw [e1]; exact hix)]
        exact hv1
    · exact o1.elim
  · rename_i n
    split at o1
    · rename_i c' fs hS
      split at o1
      · rename_i hc
        have e : c' = c := of_decide_eq_true hc
        subst e
        obtain ⟨p', hp, rfl⟩ := hv
        obtain ⟨dx, gs, h1, h2, h3⟩ := m1.obj n p' _ hp hS
        cases hl : fs.lookup fl with
        | none => rw [hl] at o1; exact o1.elim
        | some d =>
          rw [hl] at o1
          obtain ⟨v, hv1, hv2⟩ := look_two hl h2 h3
          exact ⟨_, _, _, _, v, rfl, h1, cl, na, hv1, OutD.get o1 hv2⟩
      · exact o1.elim
    · exact o1.elim
  · exact o1.elim
theorem pass_no (X : Cx) : Passes (L2.CX X.prog X.w) X.nox (fun _ _ _ => False) := fun pins σ H s e s' I c => by
  have := XE.of_call (W := fun _ _ _ _ => False) (I : Inv X.nox pins σ H s) (fun _ _ _ h => h) c
  obtain ⟨_, _, _, _, _, _, _, _, _, _, _, _, _, _, _, _, z⟩ := this
  exact z
theorem s_prop {c : Nat} {fl : Str} {pa : Addr} (cl : Cls X.K (T.ca c)) (hp : PropOf X.K (T.ca c) fl pa ad) (F : FnE X.prog X.w X.K X.mg X.base T C k f ad) (hr : Room (k + 1) X.A) (ho : SE X T C W o io) (hb : attributeBase o fl X.env (eval o X.env) = eval o X.env := by rfl) :
    SE X T C W (.Attribute o fl pos) (.prop c f fl io) := by
  obtain ⟨fd, ps, ok, hbd⟩ := F.ok
  refine imE (pe_prop (dvs := []) (ds := []) ho cl hp ok hr hbd .nil (pass_no X) hb) fun σ H Q h => ?_
  obtain ⟨env, m, rfl, er, oo⟩ := h
  refine ⟨env, m, rfl, er, (OutG.bind (R := VR X.K) (R' := VR X.K) (r := (sem C io).v env m.S) oo).imp ?_⟩
  rintro y H1 ⟨u, m1, f1, rfl, hv, q1⟩
  split at q1
  · rename_i hi
    obtain ⟨a, dx, gs, rfl, h1⟩ := insOf_inv hv hi
    refine ⟨a, dx, gs, rfl, h1, m1, [u], rfl, .cons hv .nil, ?_⟩
    cases hc : C f [u] m1.S with
    | ok v S => rw [hc] at q1; exact q1
    | ex c fs S => rw [hc] at q1; exact q1.elim
    | er => rw [hc] at q1; exact q1.elim
  · exact q1.elim
end
end Itp

set_option Elab.async false
set_option linter.all false
set_option autoImplicit false
set_option maxRecDepth 100000
set_option maxHeartbeats 4000000
/-! A list taken apart by a target. -/
namespace Itp
open PySem L2
section
variable {prog : Program} {w : World} {A : Around} {E : Value → Shared → Prop} {s : Shared}
theorem draw_walk {it : Addr} {items : Array Value} {fp wr : List Addr} {St : Nat → Heap → Prop} (W : Walks prog w A it fp wr items.size (fun i v => items[i]? = some v) St) : ∀ (n i : Nat) (s : Shared) (Q : List Value → Shared → Prop), St i s.heap → i + n ≤ items.size →
    (∀ h' tk, St (i + n) h' → (∀ b o, b ∉ wr → s.heap.get? b = some o → h'.get? b = some o) → Q ((items.toList.drop i).take n) { s with heap := h', toks := tk }) → wpAny (model prog w) A (PySem.draw (.ref it) n) Q E s
  | 0, i, s, Q, hit, _, hQ => by
    show wpAny _ _ (pure []) Q E s
    exact wpAny_pure (by simpa using hQ s.heap s.toks hit fun _ _ _ e => e)
  | n + 1, i, s, Q, hit, hle, hQ => by
    have hlt : i < items.size := by omega
    show wpAny _ _ (pyNext (.ref it) >>= _) Q E s
    refine wpAny_bind (W.item i s _ _ hlt hit fun v h₁ tk hv st₁ k₁ => ?_)
    have ev : v = items[i] := by
      rw [Array.getElem?_eq_getElem hlt] at hv
      exact (Option.some.inj hv).symm
    subst ev
    refine wpAny_bind (wpAny_holding (draw_walk W n (i + 1) _ _ st₁ (by omega) fun h₂ tk₂ hit₂ k₂ => wpAny_pure ?_))
    have hd : items.toList.drop i = items[i] :: items.toList.drop (i + 1) := by simp [List.drop_eq_getElem_cons, hlt]
    have := hQ h₂ tk₂ (by rw [show i + (n + 1) = i + 1 + n by omega]; exact hit₂) fun b o hb e => k₂ b o hb (k₁ b o hb e)
    rw [hd, List.take_succ_cons] at this
    exact this
theorem unpackItems_list {t : Addr} {items : Array Value} {Q : List Value → Shared → Prop} (hh : A.handled = none) (ht : s.heap.IsList t items)
    (hQ : ∀ h' tk, (∀ b o, s.heap.get? b = some o → h'.get? b = some o) → Q items.toList { s with heap := h', toks := tk }) : wpAny (model prog w) A (unpackItems (.ref t) items.size none) Q E s := by
  have hlt : t ≠ s.heap.objs.size := by obtain ⟨o, ho, _⟩ := ht; exact Nat.ne_of_lt (Heap.lt_size ho)
  have W := Walks.list (prog := prog) (w := w) (A := A) hh s.heap.objs.size t hlt items
  have nw : ∀ b (o : Obj), s.heap.get? b = some o → b ∉ [s.heap.objs.size] := fun b o e hb => absurd (Heap.lt_size e) ((List.mem_singleton.mp hb) ▸ Nat.lt_irrefl _)
  unfold unpackItems
  refine wpAny_bind ?_
  unfold notIterableAtAll
  refine wpAny_bind (wpAny_specialOf ht.typeIs slot_list_iter.lookup ?_)
  refine wpAny_pure ?_
  simp only [Bool.false_eq_true, if_false]
  refine wpAny_bind (wpAny_holding (wpAny_pyIter_list ht ?_))
  refine wpAny_bind (wpAny_holding (draw_walk W items.size 0 { s with heap := s.heap.push { cls := .type "list_iterator", data := .fields #[.ref t, .int 0 0] } } _ ⟨⟨_, Heap.get?_push_size _ rfl, rfl, rfl⟩, ht.push _⟩ (by omega) fun h₁ tk₁ hit₁ k₁ => ?_))
  have hall : List.take items.size (List.drop 0 items.toList) = items.toList := by
    rw [List.drop_zero]; exact List.take_of_length_le (by simp)
  rw [hall]
  rw [if_neg (by simp)]
  refine wpAny_bind (wpAny_holding (W.done _ _ _ (by simpa using hit₁) fun h₂ tk₂ k₂ => ?_))
  simp only [Option.isSome_none, Bool.false_eq_true, if_false]
  exact wpAny_pure (hQ h₂ tk₂ fun b o e => k₂ b o (nw b o e) (k₁ b o (nw b o e) (Heap.get?_push_of_some _ e)))
theorem assign_Tuple_list {env : Env} {elts : List Expr} {x1} {pos : Pos} {t : Addr} {items : Array Value} {Q : Unit → Shared → Prop} (hh : A.handled = none) (ht : s.heap.IsList t items)
    (hn : (assignEach elts env).length = items.size) (hstar : (assignEach elts env).findIdx? (·.1) = none)
    (h : ∀ h' tk, (∀ b o, s.heap.get? b = some o → h'.get? b = some o) → wpAny (model prog w) A (assignInOrder ((assignEach elts env).map (·.2)) items.toList) Q E { s with heap := h', toks := tk }) :
    wpAny (model prog w) A (assign (.Tuple elts x1 pos) env (.ref t)) Q E s := by
  rw [PyProof.Rows.assign_Tuple]
  refine wpAny_bind (wpAny_standAt ?_)
  unfold unpack
  rw [hn, hstar]
  exact wpAny_bind (wpAny_holding (unpackItems_list hh ht h))
end
section
variable {X : Cx} {pos : Pos}
/-- (a, b, ..) = a tuple or a list of that length -/
def gTL (K : PySem.W.Frag) (n : Nat) (t : TGs) : TG := fun v σ H Q => ∃ a xs, v = .ref a ∧ (SqT K H a xs ∨ SqL K H a xs) ∧ xs.length = n ∧ t xs σ H Q
theorem pg_tl {es : List Expr} {k : Nat} {t : TGs} {n : Nat} (hc : X.calm = true) (h : PGs X es t)
    (hn : (assignEach es X.env).length = n := by rfl) (hst : (assignEach es X.env).findIdx? (·.1) = none := by rfl) : PG X (.Tuple es k pos) (gTL X.K n t) := by
  refine ⟨fun pins s σ H v u Q I r hw => ?_⟩
  obtain ⟨a, xs, e1, hq, hl, hw⟩ := hw
  rcases hq with hq | hq
  · exact (pg_tup hc h hn hst).run pins s σ H v u Q I r ⟨a, xs, e1, hq, hl, hw⟩
  subst e1
  cases r
  obtain ⟨its, rv, ht, hz⟩ := I.list hq
  refine assign_Tuple_list (I.ok.hd hc) ht.isList (by simp [hn, ← hl, rv.length]) hst fun h' tk hx => ?_
  exact h.run pins _ σ H xs _ Q (I.kept (t' := tk) hx) (by simpa using rv) hw
end
end Itp

set_option Elab.async false
set_option linter.all false
set_option autoImplicit false
set_option maxRecDepth 100000
set_option maxHeartbeats 4000000
/-! Targets, what a loop walks. -/
namespace Itp
open PySem L2
abbrev WF : WX := fun _ _ _ _ => False
theorem takes_F {X : Cx} : Takes X WF := fun u s' ⟨_, _, _, _, _, _, _, _, _, _, _, _, _, _, _, _, z⟩ => z.elim
section
variable (P : Program) (w : World) (T : Ct) (K : PySem.W.Frag)
/-- a tuple whose object is not known -/
def RwR (m : Mem P w T) (u : Vl) (v : V) : Prop := ∃ ds a xs, u = .d (.tuple ds) ∧ v = .ref a ∧ SqT K m.H a xs ∧ DrAll P w T m.M m.H ds xs
def RI (I : St → St → Prop) (σ : St) (m : Mem P w T) (env : Ev) (σ' : St) : Prop := EnvR K m env σ' ∧ I σ σ'
def tG (I : St → St → Prop) (R : Mem P w T → Vl → V → Prop) (ev : Vl → Ev → Sto → Re Ev) : TG := fun v σ H Q => ∃ (env : Ev) (m : Mem P w T) (u : Vl), m.H = H ∧ EnvR K m env σ ∧ R m u v ∧ OutG (RI P w T K I σ) WF σ m (ev u env m.S) Q
def tGs (I : St → St → Prop) (ev : List D → Ev → Sto → Re Ev) : TGs := fun vs σ H Q => ∃ (env : Ev) (m : Mem P w T) (ds : List D), m.H = H ∧ EnvR K m env σ ∧ DrAll P w T m.M m.H ds vs ∧ OutG (RI P w T K I σ) WF σ m (ev ds env m.S) Q
/-- J walks xs -/
def ItR (R : Mem P w T → Vl → V → Prop) (m : Mem P w T) (xs : List D) (J : It) : Prop := ∀ (m' : Mem P w T), Fut m m' → ∀ i : Nat, (∀ x, xs[i]? = some x → J.go i m'.H ∧ ∀ y H', J.yld i m'.H y H' → ∃ m'' : Mem P w T, m''.H = H' ∧ Fut m' m'' ∧ m''.S = m'.S ∧ R m'' (.d x) y) ∧ (xs.length ≤ i → J.stop i m'.H)
def tI (R : Mem P w T → Vl → V → Prop) (ev : Ev → Sto → Re (List D)) (W : WX) : TI := fun σ H Rk => ∃ (env : Ev) (m : Mem P w T), m.H = H ∧ EnvR K m env σ ∧ OutG (ItR P w T R) W σ m (ev env m.S) Rk
end
section
variable {X : Cx} {T : Ct} {C : CallF} {W : WX} {a b e : Expr} {es : List Expr} {ia ib ie : E} {is : List E} {pos p : Pos} {x : Str}
abbrev IT : St → St → Prop := fun _ _ => True
abbrev IW (vs : List Nat) : St → St → Prop := fun σ σ' => wipe σ' vs = wipe σ vs
theorem wipe_set {σ : St} {i : Nat} {v : V} : ∀ {vs : List Nat}, i ∈ vs → wipe (σ.set i (some v)) vs = wipe σ vs
  | [], h => by cases h
  | j :: vs, h => by
    by_cases hm : i ∈ vs
    · show (wipe (σ.set i (some v)) vs).set j none = (wipe σ vs).set j none
      rw [wipe_set hm]
    · have e : j = i := by cases h with
        | head => rfl
        | tail _ h => exact absurd h hm
      subst e
      show (wipe (σ.set j (some v)) vs).set j none = (wipe σ vs).set j none
      have key : ∀ vs : List Nat, j ∉ vs → wipe (σ.set j (some v)) vs = (wipe σ vs).set j (some v) := by
        intro vs
        induction vs with
        | nil => intro _; rfl
        | cons k r ih =>
          intro hk
          show (wipe (σ.set j (some v)) r).set k none = ((wipe σ r).set k none).set j (some v)
          rw [ih fun z => hk (List.mem_cons_of_mem _ z), List.set_comm _ _ (fun z => hk (by rw [z]; exact List.mem_cons_self))]
      rw [key vs hm, List.set_set]
theorem OutG.rel {P : Program} {w : World} {T : Ct} {α β : Type} {R R' : Mem P w T → α → β → Prop} {W : WX} {σ : St} {m : Mem P w T} {r : Re α} {Q : β → Hp → Prop} (h : OutG R W σ m r Q) (k : ∀ m a b, R' m a b → R m a b) : OutG R' W σ m r Q := by
  cases r with
  | ok a S => exact fun b m' g e x => h b m' g e (k _ _ _ x)
  | ex c fs S => exact h
  | er => exact h
/-- how a target may change the slots -/
structure Itr_ (I : St → St → Prop) : Prop where
  refl : ∀ σ, I σ σ
  trans : ∀ {σ σ' σ''}, I σ σ' → I σ' σ'' → I σ σ''
theorem it_T : Itr_ IT := ⟨fun _ => trivial, fun _ _ => trivial⟩
theorem it_W {vs : List Nat} : Itr_ (IW vs) := ⟨fun _ => rfl, fun a b => b.trans a⟩
abbrev SG (X : Cx) (T : Ct) (C : CallF) (I : St → St → Prop) (e : Expr) (i : E) : Prop := PG X e (tG X.prog X.w T X.K I (VR X.K) (sem C i).a)
abbrev SGr (X : Cx) (T : Ct) (C : CallF) (I : St → St → Prop) (e : Expr) (i : E) : Prop := PG X e (tG X.prog X.w T X.K I (RwR X.prog X.w T X.K) (sem C i).a)
abbrev SGs (X : Cx) (T : Ct) (C : CallF) (I : St → St → Prop) (es : List Expr) (is : List E) : Prop := PGs X es (tGs X.prog X.w T X.K I (asgs (sems C is)))
abbrev SI (X : Cx) (T : Ct) (C : CallF) (W : WX) (tg e : Expr) (i : E) : Prop := PI X tg e (tI X.prog X.w T X.K (VR X.K) (sem C i).i W)
abbrev SIr (X : Cx) (T : Ct) (C : CallF) (W : WX) (tg e : Expr) (i : E) : Prop := PI X tg e (tI X.prog X.w T X.K (RwR X.prog X.w T X.K) (sem C i).i W)
theorem g_name {I : St → St → Prop} (i : Nat) (hN : X.N.Nodup) (hI : ∀ (σ : St) (v : V), I σ (σ.set i (some v)) := by first | exact fun _ _ => trivial | exact fun _ _ => wipe_set (by decide)) (hi : X.N[i]? = some x := by rfl) (hx : Loc X.env.scope x := by first | exact Or.inl rfl | exact Or.inr rfl)
    (hf : X.fn x = true ∨ X.env.scope.names.lookup x = some .local := by first | exact .inl rfl | exact .inr rfl) : SG X T C I (.Name x pos) (.var i) := by
  refine imG (pg_name hN hi hx hf) fun v σ H Q h => ?_
  obtain ⟨env, m, u, rfl, er, hv, o⟩ := h
  exact OutG.get (R' := RI X.prog X.w T X.K I σ) o ⟨er.set hv, hI σ v⟩
theorem g_nil {I : St → St → Prop} (hI : Itr_ I) : SGs X T C I [] [] := by
  refine imGs pgs_nil fun vs σ H Q h => ?_
  obtain ⟨env, m, ds, rfl, er, hv, o⟩ := h
  cases hv with
  | nil => exact ⟨rfl, OutG.get (R' := RI X.prog X.w T X.K I σ) o ⟨er, hI.refl σ⟩⟩
  | cons a b => exact o.elim
theorem g_cons {I : St → St → Prop} (hI : Itr_ I) (h1 : SG X T C I e ie) (h2 : SGs X T C I es is) (hs : (assignEach (e :: es) X.env).map (·.2) = assign e X.env :: (assignEach es X.env).map (·.2) := by rfl) : SGs X T C I (e :: es) (ie :: is) := by
  refine imGs (pgs_cons h1 h2 hs) fun vs σ H Q h => ?_
  obtain ⟨env, m, ds, rfl, er, hv, o⟩ := h
  cases hv with
  | nil => exact o.elim
  | @cons d ds v vs a b =>
    refine ⟨_, _, rfl, env, m, .d d, rfl, er, a, (OutG.bind (R := RI X.prog X.w T X.K I σ) (R' := RI X.prog X.w T X.K I σ) (r := (sem C ie).a (.d d) env m.S) o).imp ?_⟩
    rintro σ' H1 ⟨env', m1, f1, rfl, er', o1⟩
    refine ⟨env', m1, ds, rfl, er'.1, DrAll.mono f1.keep _ _ b, (o1.cv (W' := WF) (σ' := σ') fun c d H z => z).rel ?_⟩
    exact fun m2 e2 σ2 h => ⟨h.1, hI.trans er'.2 h.2⟩
theorem g_tup0 {I : St → St → Prop} {k : Nat} {R : Mem X.prog X.w T → Vl → V → Prop} (hR : ∀ m ds v, R m (.d (.tuple ds)) v → ∃ a xs, v = .ref a ∧ SqT X.K m.H a xs ∧ DrAll X.prog X.w T m.M m.H ds xs) (hR2 : ∀ m ds v, R m (.d (.list ds)) v → ∃ a xs, v = .ref a ∧ SqL X.K m.H a xs ∧ DrAll X.prog X.w T m.M m.H ds xs) (hc : X.calm = true) (h : SGs X T C I es is) (hn : (assignEach es X.env).length = is.length) (hst : (assignEach es X.env).findIdx? (·.1) = none) :
    PG X (.Tuple es k pos) (tG X.prog X.w T X.K I R (sem C (.tup is)).a) := by
  refine imG (pg_tl hc h hn hst) fun v σ H Q hh => ?_
  obtain ⟨env, m, u, rfl, er, hv, o⟩ := hh
  replace o : OutG (RI X.prog X.w T X.K I σ) WF σ m (tupT (sems C is) is.length u env m.S) Q := o
  unfold tupT at o
  split at o
  · rename_i ds
    split at o
    · rename_i hl
      obtain ⟨a, xs, rfl, h1, h2⟩ := hR m ds v hv
      exact ⟨a, xs, rfl, .inl h1, by rw [← h2.length]; exact Nat.eq_of_beq_eq_true hl, env, m, ds, rfl, er, h2, o⟩
    · exact o.elim
  · rename_i ds
    split at o
    · rename_i hl
      obtain ⟨a, xs, rfl, h1, h2⟩ := hR2 m ds v hv
      exact ⟨a, xs, rfl, .inr h1, by rw [← h2.length]; exact Nat.eq_of_beq_eq_true hl, env, m, ds, rfl, er, h2, o⟩
    · exact o.elim
  · exact o.elim
theorem g_tup {I : St → St → Prop} {k : Nat} (hc : X.calm = true) (h : SGs X T C I es is) (hn : (assignEach es X.env).length = is.length := by rfl) (hst : (assignEach es X.env).findIdx? (·.1) = none := by rfl) : SG X T C I (.Tuple es k pos) (.tup is) :=
  g_tup0 (fun m ds v hv => by
    obtain ⟨p, xs, rfl, h1, _, r⟩ := Dr.tup_inv hv
    exact ⟨p, xs, rfl, sqT h1, r⟩) (fun m ds v hv => by
    obtain ⟨p, xs, rfl, h1, _, r⟩ := Dr.lst_inv hv
    exact ⟨p, xs, rfl, SqL.of h1, r⟩) hc h hn hst
theorem g_tupR {I : St → St → Prop} {k : Nat} (hc : X.calm = true) (h : SGs X T C I es is) (hn : (assignEach es X.env).length = is.length := by rfl) (hst : (assignEach es X.env).findIdx? (·.1) = none := by rfl) : SGr X T C I (.Tuple es k pos) (.tup is) :=
  g_tup0 (fun m ds v hv => by
    obtain ⟨ds', a, xs, e, rfl, h1, r⟩ := hv
    cases e
    exact ⟨a, xs, rfl, h1, r⟩) (fun m ds v hv => by
    obtain ⟨ds', a, xs, e, _⟩ := hv
    cases e) hc h hn hst
/-! ### what is walked -/
theorem pi_seq {tg l : Expr} {tl : TE} (hl : PE X l tl) : PI X tg l (fun σ H R => tl σ H fun y H1 => (∃ a xs, y = .ref a ∧ SqL X.K H1 a xs ∧ R (Itl X.K a) H1) ∨ (∃ a xs, y = .ref a ∧ SqT X.K H1 a xs ∧ R (Itt X.K a) H1) ∨ ∃ z, y = .str z ∧ R (Its z) H1) := by
  refine ⟨fun pins s σ H R I h => ?_⟩
  refine thn (hl.run pins s σ H _ I h) fun v s1 ⟨y, H1, I1, r1, q1⟩ => ?_
  rcases q1 with ⟨a, xs, rfl, hq, q⟩ | ⟨a, xs, rfl, hq, q⟩ | ⟨z, rfl, q⟩
  · cases r1
    obtain ⟨its, rv, p, hz⟩ := I1.list hq
    exact wpAny_pyIter_list p.isList (pi_one (tk := s1.toks) I1 _ (turn_list a _) ⟨_, Heap.get?_push_size _ rfl, rfl, rfl⟩ q)
  · cases r1
    obtain ⟨its, rv, p, hz⟩ := I1.tuple hq
    exact wpAny_pyIter_tuple (show s1.heap.IsTuple a its.toArray from p) (pi_one (tk := s1.toks) I1 _ (turn_tuple a _) ⟨_, Heap.get?_push_size _ rfl, rfl, rfl⟩ q)
  · obtain ⟨t, rfl⟩ := r1
    cases ha : z.cps.all (· < 128)
    · exact wpAny_pyIter_wide ha (pi_one (tk := s1.toks) I1 _ (turn_str _ z t "str_iterator" (.inr rfl)) ⟨_, Heap.get?_push_size _ rfl, rfl, rfl⟩ q)
    · exact wpAny_pyIter_ascii ha (pi_one (tk := s1.toks) I1 _ (turn_str _ z t "str_ascii_iterator" (.inl rfl)) ⟨_, Heap.get?_push_size _ rfl, rfl, rfl⟩ q)
section
variable {P : Program} {w : World} {T : Ct} {K : PySem.W.Frag}
theorem it_list {m : Mem P w T} {a : Addr} {xs : List V} {ds : List D} (h : m.H a = some (.lst xs)) (nm : ¬ m.M a) (r : DrAll P w T m.M m.H ds xs) : ItR P w T (VR K) m ds (Itl K a) := by
  intro m' f i
  obtain ⟨h', n'⟩ := f.keep _ _ h nm
  have r' := DrAll.mono f.keep _ _ r
  refine ⟨fun x hx => ?_, fun hi => ⟨xs, SqL.of h', by rw [← r.length]; exact hi⟩⟩
  obtain ⟨v, hv, hd⟩ := r'.get hx
  refine ⟨⟨xs, v, SqL.of h', hv⟩, ?_⟩
  rintro y H' ⟨rfl, hy⟩
  have := hy xs (SqL.of h')
  rw [hv] at this
  cases this
  exact ⟨m', rfl, Fut.refl m', rfl, hd⟩
theorem it_tup {m : Mem P w T} {a : Addr} {o : Obj} {xs : List V} {ds : List D} (h : m.H a = some (.frz o (.tup xs))) (nm : ¬ m.M a) (r : DrAll P w T m.M m.H ds xs) : ItR P w T (VR K) m ds (Itt K a) := by
  intro m' f i
  obtain ⟨h', n'⟩ := f.keep _ _ h nm
  have r' := DrAll.mono f.keep _ _ r
  have sq : SqT K m'.H a xs := .inl (.inr ⟨o, h'⟩)
  refine ⟨fun x hx => ?_, fun hi => ⟨xs, sq, by rw [← r.length]; exact hi⟩⟩
  obtain ⟨v, hv, hd⟩ := r'.get hx
  refine ⟨⟨xs, v, sq, hv⟩, ?_⟩
  rintro y H' ⟨rfl, hy⟩
  have := hy xs sq
  rw [hv] at this
  cases this
  exact ⟨m', rfl, Fut.refl m', rfl, hd⟩
theorem it_str {m : Mem P w T} {z : Str} : ItR P w T (VR K) m (z.cps.toList.map fun c => .str ⟨#[c]⟩) (Its z) := by
  intro m' f i
  refine ⟨fun x hx => ?_, fun hi => by rw [List.length_map, Array.length_toList] at hi; exact hi⟩
  rw [List.getElem?_map, Array.getElem?_toList] at hx
  obtain ⟨c, hc, rfl⟩ := Option.map_eq_some_iff.mp hx
  refine ⟨(Array.getElem?_eq_some_iff.mp hc).1, ?_⟩
  rintro y H' ⟨rfl, c', hc', rfl⟩
  rw [hc] at hc'
  cases hc'
  exact ⟨m', rfl, Fut.refl m', rfl, .str _⟩
theorem it_rng {m : Mem P w T} {lo hi : Int} : ItR P w T (VR K) m (rangeD lo hi) (Itr lo (hi - lo).toNat) := by
  intro m' f i
  refine ⟨fun x hx => ?_, fun h => ?_⟩
  · unfold rangeD at hx
    rw [List.getElem?_map] at hx
    obtain ⟨k, hk, rfl⟩ := Option.map_eq_some_iff.mp hx
    obtain ⟨hl, e⟩ := List.getElem?_eq_some_iff.mp hk
    rw [List.getElem_range] at e
    subst e
    rw [List.length_range] at hl
    refine ⟨hl, ?_⟩
    rintro y H' ⟨rfl, rfl⟩
    exact ⟨m', rfl, Fut.refl m', rfl, .int _⟩
  · unfold rangeD at h
    rw [List.length_map, List.length_range] at h
    exact h
end
/-- the keys of a dict that changes no more -/
def Itz (d : Addr) (o : Obj) (u : HO) (ks : List V) : It :=
  ⟨fun i H => H d = some (.frz o u) ∧ i < ks.length, fun i H x H' => H' = H ∧ ks[i]? = some x, fun i H => H d = some (.frz o u) ∧ ks.length ≤ i⟩
theorem turn_z {P : Program} {w : World} {K : PySem.W.Frag} {tg : Expr} {d : Addr} {o : Obj} {u : HO} {es : Array DictEntry} {ep : Nat} {ks : List V} (it : Addr) (hod : o.data = .dict es ep) (hv : Vals ks (es.toList.map (·.key))) : Turn P w K tg (Itz d o u ks) [it] it (fun i h => h.IsKeyIter it d i ks.length ep) where
  mem := by simp
  obj := fun i h st b hb => by
    have e : b = it := by simpa using hb
    subst e
    obtain ⟨oi, e, c, dd⟩ := st
    exact ⟨oi, e, fun v z => by rw [dd] at z; cases z⟩
  keep := fun i h h' st k => st.at fun oi e => k it (by simp) oi e
  item := by
    intro X hP hw hK hc i pins s σ H E I hf st hg
    subst hP hw hK
    obtain ⟨hd, hi⟩ := hg
    obtain ⟨f0, f1, f2, f3, f4, f5⟩ := hf it (by simp)
    have hgd : s.heap.get? d = some o := (I.hok d _ hd).1
    have hsz : es.size = ks.length := by
      have hlen : ks.length = (es.toList.map (·.key)).length := hv.length
      simp at hlen
      exact hlen.symm
    obtain ⟨x, hx⟩ : ∃ x, ks[i]? = some x := ⟨ks[i], List.getElem?_eq_getElem hi⟩
    obtain ⟨ku, hku, rku⟩ := hv.get hx
    rw [List.getElem?_map, Array.getElem?_toList] at hku
    obtain ⟨en, hen, rfl⟩ := Option.map_eq_some_iff.mp hku
    refine next_key_item st hgd hod hsz hen fun h' st' sb => ?_
    have I1 : L2.Inv X pins σ H { s with heap := h' } := I.turned (t' := s.toks) (fun b ob hb e => (sb.2 b hb).trans e) f0 f1 f3 f4 f5
    obtain ⟨oi, e, c, dd⟩ := id st'
    exact ⟨en.key, rfl, go_of (s := { s with heap := h' }) e c dd (by decide) ⟨x, H, I1, rku, ⟨rfl, hx⟩, st', fun b hb => (hf b hb).1⟩⟩
  done := by
    intro X hP hw hK hc i pins s σ H E I hf st hg
    subst hP hw hK
    obtain ⟨hd, hi⟩ := hg
    obtain ⟨f0, f1, f2, f3, f4, f5⟩ := hf it (by simp)
    have hgd : s.heap.get? d = some o := (I.hok d _ hd).1
    have hsz : es.size = ks.length := by
      have hlen : ks.length = (es.toList.map (·.key)).length := hv.length
      simp at hlen
      exact hlen.symm
    exact next_key_end (I.ok.hd hc) st hgd hod hsz hi fun h' eb => ⟨rfl, I.turned (t' := s.toks) (fun b ob hb e => eb b ob hb e) f0 f1 f3 f4 f5⟩
  self := fun A i s Q E st h => wpAny_pyIter_keyiter st h
theorem it_dic {m : Mem X.prog X.w T} {d : Addr} {o : Obj} {u : HO} {ks : List V} {ds : List D} (h : m.H d = some (.frz o u)) (nm : ¬ m.M d) (r : DrAll X.prog X.w T m.M m.H ds ks) : ItR X.prog X.w T (VR X.K) m ds (Itz d o u ks) := by
  intro m' f i
  obtain ⟨h', n'⟩ := f.keep _ _ h nm
  have r' := DrAll.mono f.keep _ _ r
  refine ⟨fun x hx => ?_, fun hi => ⟨h', by rw [← r.length]; exact hi⟩⟩
  obtain ⟨v, hv, hd⟩ := r'.get hx
  refine ⟨⟨h', (List.getElem?_eq_some_iff.mp hv).1⟩, ?_⟩
  rintro y H' ⟨rfl, hy⟩
  rw [hv] at hy
  cases hy
  exact ⟨m', rfl, Fut.refl m', rfl, hd⟩
/-- a list, a tuple, a text, a dict -/
theorem pi_seqD {tg l : Expr} {tl : TE} (hl : PE X l tl) : PI X tg l (fun σ H R => tl σ H fun y H1 => ((∃ a xs, y = .ref a ∧ SqL X.K H1 a xs ∧ R (Itl X.K a) H1) ∨ (∃ a xs, y = .ref a ∧ SqT X.K H1 a xs ∧ R (Itt X.K a) H1) ∨ ∃ z, y = .str z ∧ R (Its z) H1) ∨
    ∃ (m : Mem X.prog X.w T) (d : Addr) (o : Obj) (u : HO) (kvs : List (D × D)), m.H = H1 ∧ y = .ref d ∧ H1 d = some (.frz o u) ∧ DicAt m d kvs ∧ ∀ ks, DrAll X.prog X.w T m.M m.H (kvs.map (·.1)) ks → R (Itz d o u ks) H1) := by
  refine ⟨fun pins s σ H R I h => ?_⟩
  refine thn (hl.run pins s σ H _ I h) fun v s1 ⟨y, H1, I1, r1, q1⟩ => ?_
  rcases q1 with q1 | ⟨m, d, o, u, kvs, rfl, rfl, hd, da, q⟩
  · rcases q1 with ⟨a, xs, rfl, hq, q⟩ | ⟨a, xs, rfl, hq, q⟩ | ⟨z, rfl, q⟩
    · cases r1
      obtain ⟨its, rv, p, hz⟩ := I1.list hq
      exact wpAny_pyIter_list p.isList (pi_one (tk := s1.toks) I1 _ (turn_list a _) ⟨_, Heap.get?_push_size _ rfl, rfl, rfl⟩ q)
    · cases r1
      obtain ⟨its, rv, p, hz⟩ := I1.tuple hq
      exact wpAny_pyIter_tuple (show s1.heap.IsTuple a its.toArray from p) (pi_one (tk := s1.toks) I1 _ (turn_tuple a _) ⟨_, Heap.get?_push_size _ rfl, rfl, rfl⟩ q)
    · obtain ⟨t, rfl⟩ := r1
      cases ha : z.cps.all (· < 128)
      · exact wpAny_pyIter_wide ha (pi_one (tk := s1.toks) I1 _ (turn_str _ z t "str_iterator" (.inr rfl)) ⟨_, Heap.get?_push_size _ rfl, rfl, rfl⟩ q)
      · exact wpAny_pyIter_ascii ha (pi_one (tk := s1.toks) I1 _ (turn_str _ z t "str_ascii_iterator" (.inl rfl)) ⟨_, Heap.get?_push_size _ rfl, rfl, rfl⟩ q)
  · cases r1
    obtain ⟨hs, ob, es, ep, ks, ho, hx, hdt, hz, rv, rk⟩ := dic_keys I1 da
    have : ob = o := by
      have := (I1.hok d _ hd).1
      rw [ho] at this
      exact Option.some.inj this
    subst this
    refine iter_keys hs ho hx hdt (pi_one (tk := s1.toks) I1 _ (turn_z _ hdt rv) ⟨_, Heap.get?_push_size _ rfl, rfl, ?_⟩ (q ks rk))
    have hlen : ks.length = (es.toList.map (·.key)).length := rv.length
    simp at hlen
    rw [hlen]
    rfl
theorem i_seq {tg : Expr} (ha : SE X T C W a ia) (hi : (sem C ia).i = (valM (sem C ia).v).i := by rfl) : SI X T C W tg a ia := by
  refine imI (pi_seqD (T := T) (tg := tg) ha) fun σ H R h => ?_
  obtain ⟨env, m, rfl, er, o⟩ := h
  rw [hi] at o
  refine ⟨env, m, rfl, er, (OutG.bind (R := VR X.K) (r := (sem C ia).v env m.S) o).imp ?_⟩
  rintro y H1 ⟨u, m1, f1, rfl, hv, q1⟩
  cases hu : itemsD u with
  | none => rw [hu] at q1; exact q1.elim
  | some xs =>
    rw [hu] at q1
    unfold itemsD at hu
    split at hu
    · cases hu
      obtain ⟨p, vs, rfl, h1, n1, r1⟩ := Dr.lst_inv hv
      exact .inl (.inl ⟨p, vs, rfl, SqL.of h1, q1.get (it_list h1 n1 r1)⟩)
    · cases hu
      obtain ⟨p, vs, rfl, h1, n1, r1⟩ := Dr.tup_inv hv
      obtain ⟨o1, _, eh⟩ := id h1
      exact .inl (.inr (.inl ⟨p, vs, rfl, sqT h1, q1.get (it_tup eh n1 r1)⟩))
    · split at hu
      · cases hu
        cases Dr.str_inv hv
        exact .inl (.inr (.inr ⟨_, rfl, q1.get it_str⟩))
      · cases hu
    · rename_i kvs
      split at hu
      · rename_i hn
        cases hu
        have ed : dicOf m1.S (.d (.dict kvs)) = some kvs := by show (if noIns kvs = true then some kvs else none) = _; rw [if_pos hn]
        obtain ⟨d, rfl, da⟩ := dic_of hv ed
        obtain ⟨o1, u1, h1, n1⟩ : ∃ o1 u1, m1.H d = some (.frz o1 u1) ∧ ¬ m1.M d := by
          replace hv : Dr X.prog X.w T m1.M m1.H (.dict kvs) (.ref d) := hv
          generalize hd : PyData.dict kvs = d0 at hv
          cases hv with
          | lst => cases hd
          | tup => cases hd
          | ins _ _ _ _ q => subst hd; unfold mkIns at q; injection q with q; rw [q] at hn; cases hn
          | dK h1 n1 _ _ => exact ⟨_, _, h1, n1⟩
          | dN h1 n1 _ _ _ _ => exact ⟨_, _, h1, n1⟩
        exact .inr ⟨m1, d, o1, u1, kvs, rfl, rfl, h1, da, fun ks rk => q1.get (it_dic h1 n1 rk)⟩
      · cases hu
    · cases hu
theorem bind1A {α β : Type} {R' : Mem X.prog X.w T → α → β → Prop} {σ : St} {m : Mem X.prog X.w T} {md : Md} {env : Ev} {f : Vl → Sto → Re α} {Q : β → Hp → Prop} (o : OutG R' W σ m ((md.v env m.S).bind f) Q) :
    OutG (VRs X.K) W σ m (vals [md] env m.S) (fun ys H1 => ∃ y u m1, ys = [y] ∧ Fut m m1 ∧ m1.H = H1 ∧ VR X.K m1 u y ∧ OutG R' W σ m1 (f u m1.S) Q) := by
  show OutG (VRs X.K) W σ m ((md.v env m.S).bind fun x S => .ok [x] S) _
  cases hr : md.v env m.S with
  | ok a S =>
    rw [hr] at o
    rintro ys m1 f1 rfl vb
    cases vb with
    | cons p q =>
      cases q
      exact ⟨_, a, m1, rfl, f1, rfl, p, OutG.fut f1 o⟩
  | ex c fs S => rw [hr] at o; exact o
  | er => rw [hr] at o; exact o
theorem bind2A {α β : Type} {R' : Mem X.prog X.w T → α → β → Prop} {σ : St} {m : Mem X.prog X.w T} {md nd : Md} {env : Ev} {f : Vl → Vl → Sto → Re α} {Q : β → Hp → Prop} (o : OutG R' W σ m ((md.v env m.S).bind fun x S => (nd.v env S).bind fun y S => f x y S) Q) :
    OutG (VRs X.K) W σ m (vals [md, nd] env m.S) (fun ys H1 => ∃ y z u v m1, ys = [y, z] ∧ Fut m m1 ∧ m1.H = H1 ∧ VR X.K m1 u y ∧ VR X.K m1 v z ∧ OutG R' W σ m1 (f u v m1.S) Q) := by
  show OutG (VRs X.K) W σ m ((md.v env m.S).bind fun x S => ((nd.v env S).bind fun y S => .ok [y] S).bind fun xs S => .ok (x :: xs) S) _
  cases hr : md.v env m.S with
  | ok a S =>
    rw [hr] at o
    show OutG (VRs X.K) W σ m (((nd.v env S).bind fun y S => .ok [y] S).bind fun xs S => .ok (a :: xs) S) _
    replace o : OutG R' W σ m ((nd.v env S).bind fun y S => f a y S) Q := o
    cases hq : nd.v env S with
    | ok b S' =>
      rw [hq] at o
      rintro bs m1 g1 rfl vb
      cases vb with
      | cons p q => cases q with
        | cons p' q' =>
          cases q'
          exact ⟨_, _, a, b, m1, rfl, g1, rfl, p, p', OutG.fut g1 o⟩
    | ex c fs S => rw [hq] at o; exact o
    | er => rw [hq] at o; exact o
  | ex c fs S => rw [hr] at o; exact o
  | er => rw [hr] at o; exact o
theorem i_rng1 {tg : Expr} (hg : Gl X "range") (hm : X.mg "range" = none) (ha : SE X T C W a ia) (hs : starEach [a] X.env = [(false, eval a X.env)] := by rfl) : SI X T C W tg (.Call (.Name "range" p) [a] [] pos) (.rng1 ia) := by
  refine imI (pi_range1 (tg := tg) hg hm (s_acons ha s_anil hs) hs) fun σ H R h => ?_
  obtain ⟨env, m, rfl, er, o⟩ := h
  refine ⟨env, m, rfl, er, (bind1A (md := sem C ia) o).imp ?_⟩
  rintro ys H1 ⟨y, u, m1, rfl, f1, rfl, hv, q1⟩
  replace q1 : OutG (ItR X.prog X.w T (VR X.K)) W σ m1 (rngI (.d (.int 0)) u m1.S) R := q1
  unfold rngI at q1
  split at q1
  · rename_i i j e1
    cases e1
    cases Dr.int_inv hv
    split at q1
    · rename_i hj
      have hj := rngOk_iff.mp hj
      refine ⟨j, rfl, by omega, by omega, ?_⟩
      have := q1.get (b := Itr 0 (j - 0).toNat) it_rng
      rwa [Int.sub_zero] at this
    · exact q1.elim
  · exact q1.elim
theorem i_rng2 {tg : Expr} (hg : Gl X "range") (hm : X.mg "range" = none) (ha : SE X T C W a ia) (hb : SE X T C W b ib) (hs : starEach [a, b] X.env = [(false, eval a X.env), (false, eval b X.env)] := by rfl) (hs2 : starEach [b] X.env = [(false, eval b X.env)] := by rfl) :
    SI X T C W tg (.Call (.Name "range" p) [a, b] [] pos) (.rng2 ia ib) := by
  refine imI (pi_range2 (tg := tg) hg hm (s_acons ha (s_acons hb s_anil hs2) (by rw [hs, hs2])) hs hs2) fun σ H R h => ?_
  obtain ⟨env, m, rfl, er, o⟩ := h
  refine ⟨env, m, rfl, er, (bind2A (md := sem C ia) (nd := sem C ib) (f := rngI) o).imp ?_⟩
  rintro ys H1 ⟨y, z, u, v, m1, rfl, f1, rfl, hv, hw, q1⟩
  unfold rngI at q1
  split at q1
  · cases Dr.int_inv hv
    cases Dr.int_inv hw
    split at q1
    · rename_i hj
      have hj := rngOk_iff.mp hj
      exact ⟨_, _, rfl, ⟨by omega, by omega, by omega, by omega⟩, q1.get it_rng⟩
    · exact q1.elim
  · exact q1.elim
end
end Itp

set_option Elab.async false
set_option linter.all false
set_option autoImplicit false
set_option maxRecDepth 100000
set_option maxHeartbeats 4000000
/-! Statements. -/
namespace Itp
open PySem L2
section
variable {P : Program} {w : World} {T : Ct} {K : PySem.W.Frag}
def OutS (K : PySem.W.Frag) (W : WX) (D : Ends) (m : Mem P w T) : RS → Prop
  | .nx env S => ∀ (σ : St) (m' : Mem P w T), Fut m m' → m'.S = S → EnvR K m' env σ → D.nx σ m'.H
  | .bk env S => ∀ (σ : St) (m' : Mem P w T), Fut m m' → m'.S = S → EnvR K m' env σ → D.bk σ m'.H
  | .ct env S => ∀ (σ : St) (m' : Mem P w T), Fut m m' → m'.S = S → EnvR K m' env σ → D.ct σ m'.H
  | .rt v S => ∀ (x : V) (m' : Mem P w T), Fut m m' → m'.S = S → VR K m' v x → D.rt x m'.H
  | .ex c fs env S => ∀ (d : Option Addr) (σ : St) (m' : Mem P w T), Fut m m' → m'.S = S → EnvR K m' env σ → ExR m' c fs d → W (.ref (T.ca c)) d σ m'.H
  | .er => False
variable (P w T K)
def tS (ev : Ev → Sto → RS) (W : WX) : TS := fun D σ H => ∃ (env : Ev) (m : Mem P w T), m.H = H ∧ EnvR K m env σ ∧ OutS K W D m (ev env m.S)
variable {P w T K}
variable {W : WX} {D : Ends} {m m1 : Mem P w T} {σ : St} {env : Ev}
theorem OutS.fut {r : RS} (f : Fut m m1) (h : OutS K W D m r) : OutS K W D m1 r := by
  cases r with
  | nx env S => exact fun σ m' g e x => h σ m' (f.trans g) e x
  | bk env S => exact fun σ m' g e x => h σ m' (f.trans g) e x
  | ct env S => exact fun σ m' g e x => h σ m' (f.trans g) e x
  | rt v S => exact fun σ m' g e x => h σ m' (f.trans g) e x
  | ex c fs env S => exact fun d σ m' g e x y => h d σ m' (f.trans g) e x y
  | er => exact h
theorem OutS.bindS {α β : Type} {R : Mem P w T → α → β → Prop} {r : Re α} {f : α → Sto → RS} (er : EnvR K m env σ) (h : OutS K W D m (r.bindS env f)) :
    OutG R W σ m r (fun b H1 => ∃ (a : α) (m1 : Mem P w T), Fut m m1 ∧ m1.H = H1 ∧ R m1 a b ∧ OutS K W D m1 (f a m1.S)) := by
  cases r with
  | ok a S => exact fun b m1 g e x => ⟨a, m1, g, rfl, x, OutS.fut g (by rw [e]; exact h)⟩
  | ex c fs S => exact fun d m' g e x => h d σ m' g e (er.mono g) x
  | er => exact h
theorem OutS.okS {α β : Type} {R : Mem P w T → α → β → Prop} {r : Re α} {f : α → Sto → RS} (h : OutS K W D m (r.okS f)) :
    OutG R WF σ m r (fun b H1 => ∃ (a : α) (m1 : Mem P w T), Fut m m1 ∧ m1.H = H1 ∧ R m1 a b ∧ OutS K W D m1 (f a m1.S)) := by
  cases r with
  | ok a S => exact fun b m1 g e x => ⟨a, m1, g, rfl, x, OutS.fut g (by rw [e]; exact h)⟩
  | ex c fs S => exact h.elim
  | er => exact h
theorem OutS.bind {r : RS} {f : Ev → Sto → RS} {N : St → Hp → Prop} (h : OutS K W D m (r.bind f)) (k : ∀ (σ : St) (env : Ev) (m1 : Mem P w T), Fut m m1 → EnvR K m1 env σ → OutS K W D m1 (f env m1.S) → N σ m1.H) : OutS K W { D with nx := N } m r := by
  cases r with
  | nx env S => exact fun σ m' g e x => k σ env m' g x (OutS.fut g (by rw [e]; exact h))
  | bk env S => exact h
  | ct env S => exact h
  | rt v S => exact h
  | ex c fs env S => exact h
  | er => exact h
theorem OutS.turn {r : RS} {f : Ev → Sto → RS} {N : St → Hp → Prop} (h : OutS K W D m (r.turn f)) (k : ∀ (σ : St) (env : Ev) (m1 : Mem P w T), Fut m m1 → EnvR K m1 env σ → OutS K W D m1 (f env m1.S) → N σ m1.H) : OutS K W { D with nx := N, ct := N, bk := D.nx } m r := by
  cases r with
  | nx env S => exact fun σ m' g e x => k σ env m' g x (OutS.fut g (by rw [e]; exact h))
  | ct env S => exact fun σ m' g e x => k σ env m' g x (OutS.fut g (by rw [e]; exact h))
  | bk env S => exact h
  | rt v S => exact h
  | ex c fs env S => exact h
  | er => exact h
theorem OutS.nx {env : Ev} (h : OutS K W D m (.nx env m.S)) (er : EnvR K m env σ) : D.nx σ m.H := h σ m (Fut.refl m) rfl er
end
section
variable {X : Cx} {T : Ct} {C : CallF} {W : WX} {fu : Nat} {a b e c : Expr} {es : List Expr} {ia ib ie ic it : E} {is : List E} {pos p : Pos} {x : Str} {st : Stmt} {sts sts2 : List Stmt} {is_ : Sm} {iss iss2 : List Sm}
theorem iop_fdivW : OpR X (inplaceOp .FloorDiv) (rI CDivW fun i j => .int (i / j)) := opI fun i j _ _ _ _ _ hc q => by
  have h1 : (0 : Int) < j := hc.1
  exact PyProof.Rows.ifloordiv_int (by omega) (by rw [Int.fdiv_eq_ediv_of_nonneg i (by omega)]; exact q) (.inl (PyProof.noPylong_of_log2 hc.2))
abbrev SS (X : Cx) (T : Ct) (C : CallF) (W : WX) (fu : Nat) (s : Stmt) (i : Sm) : Prop := PS X s (tS X.prog X.w T X.K (execS C fu i) W)
abbrev SSs (X : Cx) (T : Ct) (C : CallF) (W : WX) (fu : Nat) (s : List Stmt) (i : List Sm) : Prop := PSs X s (tS X.prog X.w T X.K (execSs C fu i) W)
theorem b_nil : SSs X T C W fu [] [] := imSs pss_nil fun D σ H ⟨env, m, e, er, o⟩ => by subst e; exact OutS.nx o er
theorem b_cons (h1 : SS X T C W fu st is_) (h2 : SSs X T C W fu sts iss) : SSs X T C W fu (st :: sts) (is_ :: iss) := by
  refine imSs (pss_cons h1 h2) fun D σ H h => ?_
  obtain ⟨env, m, rfl, er, o⟩ := h
  exact ⟨env, m, rfl, er, OutS.bind (r := execS C fu is_ env m.S) o fun σ' env' m1 f1 er' o' => ⟨env', m1, rfl, er', o'⟩⟩
theorem t_asg {tg : Expr} {itg : E} (he : SE X T C W e ie) (hg : SG X T C IT tg itg) (hs : swapsWithSole [tg] e pos.line X.env = pure false := by rfl) (hw : swappedStores [tg] e X.env = pure none := by rfl) (h1 : (assignEach [tg] X.env).map (·.2) = [assign tg X.env] := by rfl) :
    SS X T C W fu (.Assign [tg] e pos) (.asg itg ie) := by
  refine imS (ps_asg he hg hs hw h1) fun D σ H h => ?_
  obtain ⟨env, m, rfl, er, o⟩ := h
  refine ⟨env, m, rfl, er, (OutS.bindS (R := VR X.K) (r := evalE C ie env m.S) er o).imp ?_⟩
  rintro y H1 ⟨u, m1, f1, rfl, hv, o1⟩
  refine ⟨env, m1, u, rfl, er.mono f1, hv, (OutS.okS (R := RI X.prog X.w T X.K IT σ) (σ := σ) (r := assignE C itg u env m1.S) o1).imp ?_⟩
  rintro σ' H2 ⟨env', m2, f2, rfl, er', o2⟩
  exact OutS.nx o2 er'.1
theorem t_set {i : Nat} {p2 : Pos} (hN : X.N.Nodup) (he : SE X T C W e ie) (hi : X.N[i]? = some x := by rfl) (hx : Loc X.env.scope x := by first | exact Or.inl rfl | exact Or.inr rfl) (hs : swapsWith e (some (.Name x p2)) pos.line X.env = pure false := by rfl)
    (hf : X.fn x = true ∨ X.env.scope.names.lookup x = some .local := by first | exact .inl rfl | exact .inr rfl) : SS X T C W fu (.Assign [.Name x p2] e pos) (.asg (.var i) ie) := by
  refine imS (ps_set hN hi hx he hs hf) fun D σ H h => ?_
  obtain ⟨env, m, rfl, er, o⟩ := h
  refine ⟨env, m, rfl, er, (OutS.bindS (R := VR X.K) (r := evalE C ie env m.S) er o).imp ?_⟩
  rintro y H1 ⟨u, m1, f1, rfl, hv, o1⟩
  exact OutS.nx (env := env.set i (some u)) o1 ((er.mono f1).set hv)
theorem t_par {i j : Nat} {x y : Str} {px py pt pt2 : Pos} {kt k2 : Nat} (hc : X.calm = true) (hN : X.N.Nodup) (ha : SA X T C W [a, b] [ia, ib]) (hi : X.N[i]? = some x := by rfl) (hj : X.N[j]? = some y := by rfl) (hij : i ≠ j := by decide)
    (hx : X.env.scope.names.lookup x = some .local := by rfl) (hy : X.env.scope.names.lookup y = some .local := by rfl)
    (hw : swappedStores [.Tuple [.Name x px, .Name y py] kt pt] (.Tuple [a, b] k2 pt2) X.env = pure (some [x, y]) := by rfl) (hs : swapsWithSole [.Tuple [.Name x px, .Name y py] kt pt] (.Tuple [a, b] k2 pt2) pos.line X.env = pure false := by rfl) :
    SS X T C W fu (.Assign [.Tuple [.Name x px, .Name y py] kt pt] (.Tuple [a, b] k2 pt2) pos) (.par [i, j] [ia, ib]) := by
  refine imS (ps_par hc hN hi hj hij hx hy ha hw hs) fun D σ H h => ?_
  obtain ⟨env, m, rfl, er, o⟩ := h
  refine ⟨env, m, rfl, er, (OutS.bindS (R := VRs X.K) (r := evalEs C [ia, ib] env m.S) er o).imp ?_⟩
  rintro ys H1 ⟨us, m1, f1, rfl, hv, o1⟩
  cases hv with
  | nil => exact o1.elim
  | cons p1 q1 => cases q1 with
    | nil => exact o1.elim
    | cons p2 q2 => cases q2 with
      | cons _ _ => exact o1.elim
      | nil => exact ⟨_, _, rfl, OutS.nx (env := (env.set i (some _)).set j (some _)) o1 (((er.mono f1).set p1).set p2)⟩
def augOp : BOp → Operator
  | .add => .Add | .sub => .Sub | .mul => .Mult | .fdiv => .FloorDiv | .mod => .Mod | .pow => .Pow
theorem aug_of (op : BOp) (hop : op ≠ .pow) : OpR X (inplaceOp (augOp op)) (fun x y H Q => ∃ (m : Mem X.prog X.w T) (a b : Vl) (z : Int), m.H = H ∧ VR X.K m a x ∧ VR X.K m b y ∧ binD m.S op a b = some (.int z) ∧ Q (.int z) H) := by
  intro pins s σ H x y v u Q I rx ry h
  obtain ⟨m, a, b, z, rfl, va, vb, e, q⟩ := h
  have key : ∃ i j, a = .d (.int i) ∧ b = .d (.int j) := by
    cases op <;> simp only [binD, addD, minusD, mulD, fdivD, modD] at e <;> first
      | (split at e <;> first
          | exact ⟨_, _, rfl, rfl⟩
          | (cases e; done)
          | (split at e <;> first | (cases e; done) | (split at e <;> cases e)))
      | exact absurd rfl hop
  obtain ⟨i, j, rfl, rfl⟩ := key
  cases Dr.int_inv va
  cases Dr.int_inv vb
  cases op with
  | add => cases e; exact iop_add pins s σ m.H _ _ v u Q I rx ry ⟨i, j, rfl, rfl, q⟩
  | sub => cases e; exact iop_sub pins s σ m.H _ _ v u Q I rx ry ⟨i, j, rfl, rfl, q⟩
  | mul =>
    simp only [binD, mulD] at e
    split at e
    · rename_i hm
      cases e
      refine iop_mul pins s σ m.H _ _ v u Q I rx ry ⟨i, j, rfl, rfl, ?_, q⟩
      unfold mulOk at hm
      rw [Bool.or_eq_true] at hm
      rcases hm with hm | hm
      · left; have := Nat.blt_eq.mp hm; constructor <;> omega
      · right; have := Nat.blt_eq.mp hm; constructor <;> omega
    · cases e
  | fdiv =>
    simp only [binD, fdivD] at e
    split at e
    · rename_i hm
      cases e
      exact iop_fdivW pins s σ m.H _ _ v u Q I rx ry ⟨i, j, rfl, rfl, divOk_W hm, q⟩
    · cases e
  | mod =>
    simp only [binD, modD] at e
    split at e
    · rename_i hm
      cases e
      exact iop_mod pins s σ m.H _ _ v u Q I rx ry ⟨i, j, rfl, rfl, (of_decide_eq_true hm : 0 < j), q⟩
    · cases e
  | pow => exact absurd rfl hop
theorem t_aug {i : Nat} {p2 : Pos} (op : BOp) (hN : X.N.Nodup) (he : SE X T C W e ie) (hop : op ≠ .pow := by intro h; cases h) (hi : X.N[i]? = some x := by rfl) (hx : Loc X.env.scope x := by first | exact Or.inl rfl | exact Or.inr rfl)
    (hf : X.fn x = true ∨ X.env.scope.names.lookup x = some .local := by first | exact .inl rfl | exact .inr rfl) : SS X T C W fu (.AugAssign (.Name x p2) (augOp op) e pos) (.aug i op ie) := by
  refine imS (ps_aug hN hi hx he (aug_of (T := T) op hop) hf) fun D σ H h => ?_
  obtain ⟨env, m, rfl, er, o⟩ := h
  replace o : OutS X.K W D m (match env[i]? with | some (some x) => (evalE C ie env m.S).bindS env fun y S => augOk S op x y fun z => .nx (env.set i (some (.d z))) S | _ => .er) := o
  split at o
  · rename_i v ev
    obtain ⟨y, h1, h2⟩ := er.2 i v ev
    refine ⟨y, h1, env, m, rfl, er, (OutS.bindS (R := VR X.K) (r := evalE C ie env m.S) er o).imp ?_⟩
    rintro z H1 ⟨u, m1, f1, rfl, hv, o1⟩
    replace o1 : OutS X.K W D m1 (augOk m1.S op v u fun z => .nx (env.set i (some (.d z))) m1.S) := o1
    unfold augOk at o1
    split at o1
    · rename_i z hz
      exact ⟨m1, v, u, z, rfl, h2.mono f1, hv, hz, OutS.nx o1 ((er.mono f1).set (v := .d (.int z)) (.int z))⟩
    · exact o1.elim
  · exact o.elim
theorem t_exp (he : SE X T C W e ie) (hs : swapsWith e none pos.line X.env = pure false := by rfl) : SS X T C W fu (.Expr e pos) (.exp ie) := by
  refine imS (ps_expr he hs) fun D σ H h => ?_
  obtain ⟨env, m, rfl, er, o⟩ := h
  refine ⟨env, m, rfl, er, (OutS.bindS (R := VR X.K) (r := evalE C ie env m.S) er o).imp ?_⟩
  rintro y H1 ⟨u, m1, f1, rfl, hv, o1⟩
  exact OutS.nx o1 (er.mono f1)
theorem t_ret (he : SE X T C W e ie) : SS X T C W fu (.Return (some e) pos) (.ret ie) := by
  refine imS (ps_ret he) fun D σ H h => ?_
  obtain ⟨env, m, rfl, er, o⟩ := h
  refine ⟨env, m, rfl, er, (OutS.bindS (R := VR X.K) (r := evalE C ie env m.S) er o).imp ?_⟩
  rintro y H1 ⟨u, m1, f1, rfl, hv, o1⟩
  exact o1 y m1 (Fut.refl m1) rfl hv
theorem t_retN : SS X T C W fu (.Return none pos) .retN := imS ps_retN fun D σ H ⟨env, m, e, er, o⟩ => by subst e; exact o .non m (Fut.refl m) rfl .non
theorem t_pass : SS X T C W fu (.Pass pos) .pass := imS ps_pass fun D σ H ⟨env, m, e, er, o⟩ => by subst e; exact OutS.nx o er
theorem t_brk : SS X T C W fu (.Break pos) .brk := imS ps_break fun D σ H ⟨env, m, e, er, o⟩ => by subst e; exact o σ m (Fut.refl m) rfl er
theorem t_cnt : SS X T C W fu (.Continue pos) .cnt := imS ps_continue fun D σ H ⟨env, m, e, er, o⟩ => by subst e; exact o σ m (Fut.refl m) rfl er
theorem t_nev : SS X T C W fu st .nev := imS ps_never fun D σ H ⟨env, m, e, er, o⟩ => o
theorem t_if (hc : ST X T C W c ic) (ha : SSs X T C W fu sts iss) (hb : SSs X T C W fu sts2 iss2) : SS X T C W fu (.If c sts sts2 pos) (.ite ic iss iss2) := by
  refine imS (ps_if hc ha hb) fun D σ H h => ?_
  obtain ⟨env, m, rfl, er, o⟩ := h
  refine ⟨env, m, rfl, er, (OutS.bindS (R := BoR) (r := evalT C ic env m.S) er o).imp ?_⟩
  rintro y H1 ⟨u, m1, f1, rfl, rfl, o1⟩
  cases u with
  | true => exact iteT ⟨env, m1, rfl, er.mono f1, o1⟩
  | false => exact iteF ⟨env, m1, rfl, er.mono f1, o1⟩
theorem t_while (hp : PassesOwn (model X.prog X.w) X.A X.env X.xe) (hc : ST X T C W c ic) (hb : SSs X T C W fu sts iss) : SS X T C W fu (.While c sts [] pos) (.whl ic iss) := by
  refine imS (ps_while hp hc hb) fun D σ H h => ?_
  obtain ⟨env, m, rfl, er, o⟩ := h
  refine ⟨fun k σ H => ∃ (env : Ev) (m : Mem X.prog X.w T), m.H = H ∧ EnvR X.K m env σ ∧ OutS X.K W D m (whileLoop (evalT C ic) (execSs C fu iss) k env m.S), ⟨fu, env, m, rfl, er, o⟩, ?_⟩
  rintro k σ H ⟨env, m, rfl, er, o⟩
  cases k with
  | zero => exact o.elim
  | succ k =>
    refine ⟨env, m, rfl, er, (OutS.bindS (R := BoR) (r := evalT C ic env m.S) er o).imp ?_⟩
    rintro y H1 ⟨u, m1, f1, rfl, rfl, o1⟩
    cases u with
    | false => exact iteF (OutS.nx o1 (er.mono f1))
    | true =>
      refine iteT ⟨fun σ H => ∃ (env : Ev) (m : Mem X.prog X.w T), m.H = H ∧ EnvR X.K m env σ ∧ OutS X.K W D m (whileLoop (evalT C ic) (execSs C fu iss) k env m.S), fun σ' H' h => ⟨k, Nat.lt_succ_self k, h⟩, env, m1, rfl, er.mono f1, ?_⟩
      exact OutS.turn (r := execSs C fu iss env m1.S) o1 fun σ' env' m2 f2 er' o' => ⟨env', m2, rfl, er', o'⟩
theorem t_for0 {tg iter : Expr} {itg : E} {R : Mem X.prog X.w T → Vl → V → Prop} (hp : PassesOwn (model X.prog X.w) X.A X.env X.xe) (hc : X.calm = true) (hi : PI X tg iter (tI X.prog X.w T X.K R (sem C it).i W)) (hg : PG X tg (tG X.prog X.w T X.K IT R (sem C itg).a)) (hb : SSs X T C W fu sts iss)
    (hs : ∀ x, foldedSetIterable iter X.env x = pure x) : SS X T C W fu (.For tg iter sts [] pos) (.for_ itg it iss) := by
  refine imS (ps_for hp hc hi hg hb hs) fun D σ H h => ?_
  obtain ⟨env, m, rfl, er, o⟩ := h
  refine ⟨env, m, rfl, er, (OutS.bindS (R := ItR X.prog X.w T R) (r := evalI C it env m.S) er o).imp ?_⟩
  rintro J H1 ⟨xs, m0, f0, rfl, hJ, o0⟩
  refine ⟨fun i k σ H => k = xs.length - i ∧ i ≤ xs.length ∧ ∃ (env : Ev) (m : Mem X.prog X.w T), m.H = H ∧ Fut m0 m ∧ EnvR X.K m env σ ∧ OutS X.K W D m (forLoop (fun x => assignE C itg (.d x)) (execSs C fu iss) (xs.drop i) env m.S), ⟨_, rfl, Nat.zero_le _, env, m0, rfl, Fut.refl m0, er.mono f0, o0⟩, ?_⟩
  rintro i k σ H ⟨rfl, hi, env, m, rfl, f, er, o⟩
  obtain ⟨j1, j2⟩ := hJ m f i
  rcases Nat.lt_or_ge i xs.length with hlt | hge
  · right
    have hx : xs[i]? = some xs[i] := List.getElem?_eq_getElem hlt
    obtain ⟨go, yl⟩ := j1 _ hx
    refine ⟨go, fun σ H => ∃ (env : Ev) (m : Mem X.prog X.w T), m.H = H ∧ Fut m0 m ∧ EnvR X.K m env σ ∧ OutS X.K W D m (forLoop (fun x => assignE C itg (.d x)) (execSs C fu iss) (xs.drop (i + 1)) env m.S), fun σ' H' h => ⟨xs.length - (i + 1), by omega, rfl, hlt, h⟩, ?_⟩
    intro y H' hy
    obtain ⟨m2, rfl, f2, e2, r2⟩ := yl y H' hy
    rw [List.drop_eq_getElem_cons hlt] at o
    have o' := OutS.fut f2 o
    rw [← e2] at o'
    refine ⟨env, m2, .d xs[i], rfl, er.mono f2, r2, (OutS.okS (R := RI X.prog X.w T X.K IT σ) (σ := σ) (r := assignE C itg (.d xs[i]) env m2.S) o').imp ?_⟩
    rintro σ' H3 ⟨env', m3, f3, rfl, er', o3⟩
    refine ⟨env', m3, rfl, er'.1, OutS.turn (r := execSs C fu iss env' m3.S) o3 fun σ4 env4 m4 f4 er4 o4 => ⟨env4, m4, rfl, (f.trans f2).trans (f3.trans f4), er4, o4⟩⟩
  · left
    have : xs.drop i = [] := List.drop_eq_nil_of_le hge
    rw [this] at o
    exact ⟨j2 hge, OutS.nx o er⟩
theorem t_for {tg iter : Expr} {itg : E} (hp : PassesOwn (model X.prog X.w) X.A X.env X.xe) (hc : X.calm = true) (hi : SI X T C W tg iter it) (hg : SG X T C IT tg itg) (hb : SSs X T C W fu sts iss)
    (hs : ∀ x, foldedSetIterable iter X.env x = pure x := by intro _; rfl) : SS X T C W fu (.For tg iter sts [] pos) (.for_ itg it iss) := t_for0 hp hc hi hg hb hs
theorem t_forR {tg iter : Expr} {itg : E} (hp : PassesOwn (model X.prog X.w) X.A X.env X.xe) (hc : X.calm = true) (hi : SIr X T C W tg iter it) (hg : SGr X T C IT tg itg) (hb : SSs X T C W fu sts iss)
    (hs : ∀ x, foldedSetIterable iter X.env x = pure x := by intro _; rfl) : SS X T C W fu (.For tg iter sts [] pos) (.for_ itg it iss) := t_for0 hp hc hi hg hb hs
theorem EnvR.over {P : Program} {w : World} {T : Ct} {K : PySem.W.Frag} {m : Mem P w T} {env : Ev} {σ : St} (h : EnvR K m env σ) {i : Nat} {u : Vl} {x : V} (hx : σ[i]? = some (some x)) (hu : VR K m u x) : EnvR K m (env.set i (some u)) σ := by
  refine ⟨by rw [List.length_set]; exact h.1, fun j v e => ?_⟩
  by_cases hj : i = j
  · subst hj
    have hi : i < env.length := by
      have := (List.getElem?_eq_some_iff.mp e).1
      simpa using this
    rw [List.getElem?_set_self hi] at e
    cases e
    exact ⟨x, hx, hu⟩
  · rw [List.getElem?_set_ne hj] at e
    exact h.2 j v e
theorem zip_self : ∀ kvs : List (D × D), (kvs.map (·.1)).zip (kvs.map (·.2)) = kvs
  | [] => rfl
  | q :: r => by rw [List.map_cons, List.map_cons, List.zip_cons_cons, zip_self r]
/-- an object of the store, frozen: a list as it is, a dict locked -/
theorem fz_mem {m : Mem X.prog X.w T} {n : Nat} {p : Addr × Addr} {o : O} {H' : Hp} (hp : m.φ[n]? = some p) (hS : m.S[n]? = some o) (hl : o.live = true) (k : ∀ z, z ≠ p.1 → z ≠ p.2 → H' z = m.H z) (t1 : (H' p.1).isSome = true) (t2 : (H' p.2).isSome = true) :
    ∃ m1 : Mem X.prog X.w T, m1.H = H' ∧ m1.S = m.S.set n .dead ∧ Fut m m1 ∧ ¬ m1.M p.1 := by
  refine ⟨m.put n p o .dead H' hp hS hl k t1 t2 trivial, rfl, rfl, m.put_fut (o' := .dead) hp hS hl k t1 t2 trivial, ?_⟩
  rintro ⟨j, q, u, b1, b2, b3, b4⟩
  have b1 : m.φ[j]? = some q := b1
  have b2 : (m.S.set n .dead)[j]? = some u := b2
  by_cases e : n = j
  · subst e
    have hl := (List.getElem?_eq_some_iff.mp hS).1
    rw [List.getElem?_set_self hl] at b2
    cases b2
    cases b3
  · have ap := m.apart n j p q e hp b1
    rcases b4 with b4 | b4
    · exact ap.1 b4
    · exact ap.2.1 b4
/-- the dict at p, locked: the same data, pure -/
theorem fz_dic {m : Mem X.prog X.w T} {pins : List (Addr × Obj)} {σ : St} {s : Shared} {n : Nat} {p : Addr × Addr} {kvs : List (D × D)} (I : L2.Inv X pins σ m.H s) (hp : m.φ[n]? = some p) (hS : m.S[n]? = some (.dic kvs)) :
    ∃ m1 : Mem X.prog X.w T, L2.Inv X pins σ m1.H s ∧ m1.S = m.S.set n .dead ∧ Fut m m1 ∧ Dr X.prog X.w T m1.M m1.H (.dict kvs) (.ref p.1) := by
  have th := m.there n p hp
  have key : ∀ (u : HO), m.H p.1 = some u → Mut (some u) → ∃ od, ∃ m1 : Mem X.prog X.w T, L2.Inv X pins σ m1.H s ∧ m1.S = m.S.set n .dead ∧ Fut m m1 ∧ m1.H p.1 = some (.frz od u) ∧ ¬ m1.M p.1 := by
    intro u hu mu
    obtain ⟨od, I'⟩ := I.lock hu mu
    have k : ∀ z, z ≠ p.1 → z ≠ p.2 → upd m.H p.1 (.frz od u) z = m.H z := fun z hz _ => upd_ne hz
    have t1 : (upd m.H p.1 (.frz od u) p.1).isSome = true := by rw [upd_same]; rfl
    have t2 : (upd m.H p.1 (.frz od u) p.2).isSome = true := by
      by_cases e : p.2 = p.1
      · rw [e]; exact t1
      · rw [upd_ne e]; exact th.2
    obtain ⟨m1, e1, e2, f1, nM⟩ := fz_mem (H' := upd m.H p.1 (.frz od u)) hp hS rfl k t1 t2
    exact ⟨od, m1, by rw [e1]; exact I', e2, f1, by rw [e1]; exact upd_same, nM⟩
  rcases m.obj n p _ hp hS with ⟨hv, h1, h2, h3⟩ | ⟨xs, vs, h1, h2, h3, h4, h5⟩
  · obtain ⟨od, m1, I', e2, f1, hh, nM⟩ := key _ h1 trivial
    refine ⟨m1, I', e2, f1, .dK hh nM (DrAll.mono f1.keep _ _ h2) ?_⟩
    rw [← h3, zip_self]
  · obtain ⟨od, m1, I', e2, f1, hh, nM⟩ := key _ h1 trivial
    refine ⟨m1, I', e2, f1, .dN hh nM ?_ h4 (DrAll.mono f1.keep _ _ h5) ?_⟩
    · rw [← h3]; exact DrAll.mono f1.keep _ _ h2
    · rw [← h3, zip_self]
theorem t_fz (i : Nat) (h : SS X T C W fu st is_) : SS X T C W fu st (.fz i is_) := by
  refine ⟨fun pins s σ H D I hh => ?_⟩
  obtain ⟨env, m, rfl, er, o⟩ := hh
  replace o : OutS X.K W D m (freeze i env m.S (execS C fu is_)) := o
  unfold freeze at o
  split at o
  · rename_i n en
    split at o
    · rename_i ds hS
      obtain ⟨x, hx, p, hp, rfl⟩ := er.2 i _ en
      obtain ⟨xs, h1, r1⟩ := m.obj n p _ hp hS
      have th := m.there n p hp
      obtain ⟨m1, e1, e2, f1, nM⟩ := fz_mem (H' := m.H) hp hS rfl (fun _ _ _ => rfl) th.1 th.2
      refine h.run pins s σ m.H D I ⟨_, m1, e1, EnvR.over (er.mono f1) hx (u := .d (.list ds)) (Dr.lst (by rw [e1]; exact h1) nM (DrAll.mono f1.keep _ _ r1)), ?_⟩
      rw [e2]
      exact OutS.fut f1 o
    · rename_i kvs hS
      obtain ⟨x, hx, p, hp, rfl⟩ := er.2 i _ en
      obtain ⟨m1, I', e2, f1, dr⟩ := fz_dic I hp hS
      refine h.run pins s σ m1.H D I' ⟨_, m1, rfl, EnvR.over (er.mono f1) hx (u := .d (.dict kvs)) dr, ?_⟩
      rw [e2]
      exact OutS.fut f1 o
    · exact o.elim
  · exact o.elim
end
end Itp

set_option Elab.async false
set_option linter.all false
set_option autoImplicit false
set_option maxRecDepth 100000
set_option maxHeartbeats 4000000
/-! List comprehensions. -/
namespace Itp
open PySem L2
section
variable {P : Program} {w : World} {T : Ct} {K : PySem.W.Frag}
theorem wipeE_len (env : Ev) : ∀ vs : List Nat, (wipeE env vs).length = env.length
  | [] => rfl
  | v :: vs => by show ((wipeE env vs).set v none).length = _; rw [List.length_set, wipeE_len env vs]
theorem wipe_keep {σ : St} {i : Nat} {x : V} : ∀ {vs : List Nat}, i ∉ vs → σ[i]? = some (some x) → (wipe σ vs)[i]? = some (some x)
  | [], _, h => h
  | v :: vs, hn, h => by
    show ((wipe σ vs).set v none)[i]? = _
    rw [List.getElem?_set_ne (fun z => hn (by rw [z]; exact List.mem_cons_self))]
    exact wipe_keep (fun z => hn (List.mem_cons_of_mem _ z)) h
theorem set_wipe {σ : St} {v : Nat} : ∀ {vs : List Nat}, v ∈ vs → (L2.wipe σ vs).set v none = L2.wipe σ vs
  | [], h => by cases h
  | j :: vs, h => by
    show ((L2.wipe σ vs).set j none).set v none = (L2.wipe σ vs).set j none
    by_cases e : j = v
    · subst e; rw [List.set_set]
    · rw [List.set_comm _ _ e, set_wipe (by cases h with | head => exact absurd rfl e | tail _ h => exact h)]
theorem L2_wipe_wipe (σ : St) : ∀ vs : List Nat, L2.wipe (L2.wipe σ vs) vs = L2.wipe σ vs := by
  intro vs
  have key : ∀ us : List Nat, (∀ u ∈ us, u ∈ vs) → L2.wipe (L2.wipe σ vs) us = L2.wipe σ vs := by
    intro us
    induction us with
    | nil => intro _; rfl
    | cons u r ih =>
      intro h
      show (L2.wipe (L2.wipe σ vs) r).set u none = _
      rw [ih fun z hz => h z (List.mem_cons_of_mem _ hz), set_wipe (h u List.mem_cons_self)]
  exact key vs fun _ h => h
theorem wipeE_some {env : Ev} {i : Nat} {u : Vl} : ∀ {vs : List Nat}, (wipeE env vs)[i]? = some (some u) → env[i]? = some (some u) ∧ i ∉ vs
  | [], h => ⟨h, by simp⟩
  | v :: vs, h => by
    have h' : ((wipeE env vs).set v none)[i]? = some (some u) := h
    by_cases e : v = i
    · subst e
      rw [List.getElem?_set] at h'
      simp only [if_true] at h'
      split at h' <;> cases h'
    · rw [List.getElem?_set_ne e] at h'
      obtain ⟨a, b⟩ := wipeE_some h'
      exact ⟨a, fun z => by cases z with
        | head => exact e rfl
        | tail _ z => exact b z⟩
theorem EnvR.wipe {m : Mem P w T} {env : Ev} {σ : St} (h : EnvR K m env σ) (vs : List Nat) : EnvR K m (wipeE env vs) (L2.wipe σ vs) := by
  refine ⟨by rw [wipeE_len, wipe_length]; exact h.1, fun i u e => ?_⟩
  obtain ⟨e1, e2⟩ := wipeE_some e
  obtain ⟨y, h1, h2⟩ := h.2 i u e1
  exact ⟨y, wipe_keep e2 h1, h2⟩
end
section
variable {X : Cx} {T : Ct} {C : CallF} {W : WX} {a b e c : Expr} {es : List Expr} {ia ib ie ic it itg : E} {is ics : List E} {pos p : Pos} {x : Str}
abbrev STs (X : Cx) (T : Ct) (C : CallF) (W : WX) (es : List Expr) (is : List E) : Prop := PTs X es (tT X.prog X.w T X.K (tests (sems C is)) W)
theorem c_nil : STs X T C W [] [] := ⟨fun pins s σ H Q I ⟨env, m, e, er, o⟩ => pts_nil.run pins s σ H Q I (by subst e; exact OutG.get (R' := BoR) o rfl)⟩
theorem c_one (h : ST X T C W c ic) : STs X T C W [c] [ic] := ⟨fun pins s σ H Q I q => (pts_one h).run pins s σ H Q I q⟩
theorem lc_read {R : Mem X.prog X.w T → Vl → V → Prop} {vs : List Nat} {σ : St} {H : Hp} {Q : VK} (h : tE X.prog X.w T X.K (sem C (.lc vs ie itg it ics)).v W σ H Q) :
    tLc (tI X.prog X.w T X.K R (sem C it).i W) (tG X.prog X.w T X.K (IW vs) R (sem C itg).a) (tT X.prog X.w T X.K (tests (sems C ics)) WF) (tE X.prog X.w T X.K (sem C ie).v WF) vs σ H Q := by
  obtain ⟨env, m, rfl, er, o⟩ := h
  refine ⟨env, m, rfl, er, (OutG.bind (R := ItR X.prog X.w T R) (R' := VR X.K) (r := (sem C it).i env m.S) o).imp ?_⟩
  rintro J H1 ⟨xs, m0, f0, rfl, hJ, o0⟩ D hD
  let step := lcStep (sem C itg) vs (tests (sems C ics)) (sem C ie) env
  replace o0 : OutG (VR X.K) W σ m0 (lcLoop step m0.S.length xs (m0.S ++ [.lst []])) Q := o0
  have kk : ∀ z u, m0.H z = some u → upd m0.H D (.lst []) z = some u := upd_keep hD
  have tD : (upd m0.H D (.lst []) D).isSome = true := by rw [upd_same]; rfl
  let m1 : Mem X.prog X.w T := m0.push (.lst []) D D (upd m0.H D (.lst [])) hD hD kk tD tD rfl (fun _ _ => ⟨[], upd_same, .nil⟩)
  have f1 : Fut m0 m1 := m0.push_fut (o := .lst []) hD hD kk tD tD rfl (fun _ _ => ⟨[], upd_same, .nil⟩)
  have at1 : m1.φ[m0.S.length]? = some (D, D) := by
    show (m0.φ ++ [(D, D)])[m0.S.length]? = _
    rw [← m0.len, List.getElem?_append_right (Nat.le_refl _), Nat.sub_self]
    rfl
  refine ⟨fun i k H => k = xs.length - i ∧ i ≤ xs.length ∧ ∃ m : Mem X.prog X.w T, m.H = H ∧ Fut m0 m ∧ m.φ[m0.S.length]? = some (D, D) ∧ OutG (VR X.K) W σ m0 (lcLoop step m0.S.length (xs.drop i) m.S) Q,
    ⟨_, rfl, Nat.zero_le _, m1, rfl, f1, at1, o0⟩, ?_⟩
  rintro i k H ⟨rfl, hi, m2, rfl, f2, at2, o2⟩
  obtain ⟨j1, j2⟩ := hJ m2 f2 i
  rcases Nat.lt_or_ge i xs.length with hlt | hge
  · right
    have hx : xs[i]? = some xs[i] := List.getElem?_eq_getElem hlt
    obtain ⟨go, yl⟩ := j1 _ hx
    rw [List.drop_eq_getElem_cons hlt] at o2
    refine ⟨go, fun H => ∃ m : Mem X.prog X.w T, m.H = H ∧ Fut m0 m ∧ m.φ[m0.S.length]? = some (D, D) ∧ OutG (VR X.K) W σ m0 (lcLoop step m0.S.length (xs.drop (i + 1)) m.S) Q, fun H' h => ⟨xs.length - (i + 1), by omega, rfl, hlt, h⟩, ?_⟩
    intro y H' hy
    obtain ⟨m3, rfl, f3, e3, r3⟩ := yl y H' hy
    rw [← e3] at o2
    have er3 : EnvR X.K m3 (wipeE env vs) (L2.wipe σ vs) := ((er.mono f0).mono (f2.trans f3)).wipe vs
    refine ⟨wipeE env vs, m3, .d xs[i], rfl, er3, r3, ?_⟩
    replace o2 : OutG (VR X.K) W σ m0 (match lcStep (sem C itg) vs (tests (sems C ics)) (sem C ie) env xs[i] m3.S with
      | .ok (some y) S1 => (match lcPut m0.S.length y S1 with | some S2 => lcLoop step m0.S.length (xs.drop (i + 1)) S2 | none => .er)
      | .ok none S1 => lcLoop step m0.S.length (xs.drop (i + 1)) S1
      | _ => .er) Q := o2
    unfold lcStep at o2
    cases ha : (sem C itg).a (.d xs[i]) (wipeE env vs) m3.S with
    | er => rw [ha] at o2; exact o2.elim
    | ex c fs S => rw [ha] at o2; exact o2.elim
    | ok env1 S1 =>
      rw [ha] at o2
      rintro σ4 m4 f4 rfl ⟨er4, w4⟩
      refine ⟨w4.trans (L2_wipe_wipe σ vs), env1, m4, rfl, er4, ?_⟩
      cases hb : tests (sems C ics) env1 m4.S with
      | er => simp only [hb] at o2; exact o2.elim
      | ex c fs S => simp only [hb] at o2; exact o2.elim
      | ok bo S2 =>
        simp only [hb] at o2
        rintro bo' m5 f5 rfl rfl
        cases bo with
        | false =>
          exact iteF ⟨m5, rfl, (f2.trans f3).trans (f4.trans f5), f5.pre _ _ (f4.pre _ _ (f3.pre _ _ at2)), o2⟩
        | true =>
          refine iteT ⟨env1, m5, rfl, er4.mono f5, ?_⟩
          simp only at o2
          cases hv : (sem C ie).v env1 m5.S with
          | er => simp only [hv] at o2; exact o2.elim
          | ex c fs S => simp only [hv] at o2; exact o2.elim
          | ok v S3 =>
            simp only [hv] at o2
            cases v with
            | r n => exact o2.elim
            | s n => exact o2.elim
            | x n k => exact o2.elim
            | d dy =>
              rintro yv m6 f6 rfl hyv
              have at6 : m6.φ[m0.S.length]? = some (D, D) := f6.pre _ _ (f5.pre _ _ (f4.pre _ _ (f3.pre _ _ at2)))
              simp only at o2
              cases hp : lcPut m0.S.length dy m6.S with
              | none => simp only [hp] at o2; exact o2.elim
              | some S4 =>
                simp only [hp] at o2
                unfold lcPut at hp
                split at hp
                · rename_i ds hds
                  split at hp
                  · rename_i hl
                    cases hp
                    obtain ⟨vs6, h6, r6⟩ := m6.obj _ _ _ at6 hds
                    obtain ⟨m7, e7, h7, f7⟩ := m6.putL at6 hds (r6.append (.cons hyv .nil))
                    refine ⟨vs6, h6, ?_, m7, h7, ((f2.trans f3).trans (f4.trans f5)).trans (f6.trans f7), f7.pre _ _ at6, ?_⟩
                    · have := inLine_sz hl
                      rw [← r6.length]
                      omega
                    · rw [e7]
                      exact o2
                  · cases hp
                · cases hp
  · left
    have : xs.drop i = [] := List.drop_eq_nil_of_le hge
    rw [this] at o2
    refine ⟨j2 hge, ?_⟩
    replace o2 : OutG (VR X.K) W σ m0 (lcEnd m0.S.length m2.S) Q := o2
    unfold lcEnd at o2
    split at o2
    · rename_i ds hds
      obtain ⟨vs2, h2, r2⟩ := m2.obj _ _ _ at2 hds
      refine o2 (.ref D) (m2.cut m0.S.length) (Mem.cut_fut f2 (Nat.le_refl _)) rfl ?_
      have nM : ¬ (m2.cut m0.S.length).M D := by
        rintro ⟨i, q', u, b1, b2, b3, b4⟩
        have hi : i ≠ m0.S.length := by
          have := (List.getElem?_eq_some_iff.mp b1).1
          rw [show (m2.cut m0.S.length).φ = m2.φ.take m0.S.length from rfl, List.length_take] at this
          omega
        have ap := m2.apart i m0.S.length q' (D, D) hi (take_some b1) at2
        rcases b4 with b4 | b4
        · exact ap.1 b4.symm
        · exact ap.2.2.1 b4.symm
      exact .lst h2 nM (DrAll.mono (m2.cut_keep _) _ _ r2)
    · exact o2.elim
theorem s_lc0 {R : Mem X.prog X.w T → Vl → V → Prop} {elt tg iter : Expr} {ifs : List Expr} {scope : Scope} {own : List (Str × Nat)} (hc : X.calm = true) (hN : X.N.Nodup) (hi : PI X tg iter (tI X.prog X.w T X.K R (sem C it).i W)) (ok : BlkOk X.N X.env.scope scope own)
    (hg : ∀ (s : Shared) (H : Hp) (Ca : Addr) (cl : List (Str × Addr)) (fp : List Addr), PG (X.blk s H scope (compEnvC scope cl Ca X.env) fp) tg (tG X.prog X.w T X.K (IW (own.map (·.2))) R (sem C itg).a))
    (ht : ∀ (s : Shared) (H : Hp) (Ca : Addr) (cl : List (Str × Addr)) (fp : List Addr), STs (X.blk s H scope (compEnvC scope cl Ca X.env) fp) T C WF ifs ics)
    (he : ∀ (s : Shared) (H : Hp) (Ca : Addr) (cl : List (Str × Addr)) (fp : List Addr), SE (X.blk s H scope (compEnvC scope cl Ca X.env) fp) T C WF elt ie)
    (hs : ∀ x, foldedSetIterable iter X.env x = pure x) : SE X T C W (.ListComp elt [⟨tg, iter, ifs, 0⟩] scope pos) (.lc (own.map (·.2)) ie itg it ics) :=
  imE (pe_lc hc hN hi ok hg ht he hs) fun σ H Q h => lc_read h
/-- a comprehension; its own names with their places -/
theorem s_lc {elt tg iter : Expr} {ifs : List Expr} {scope : Scope} (own : List (Str × Nat)) (hc : X.calm = true) (hN : X.N.Nodup) (hi : SI X T C W tg iter it)
    (hg : ∀ (s : Shared) (H : Hp) (Ca : Addr) (cl : List (Str × Addr)) (fp : List Addr), SG (X.blk s H scope (compEnvC scope cl Ca X.env) fp) T C (IW (own.map (·.2))) tg itg)
    (ht : ∀ (s : Shared) (H : Hp) (Ca : Addr) (cl : List (Str × Addr)) (fp : List Addr), STs (X.blk s H scope (compEnvC scope cl Ca X.env) fp) T C WF ifs ics)
    (he : ∀ (s : Shared) (H : Hp) (Ca : Addr) (cl : List (Str × Addr)) (fp : List Addr), SE (X.blk s H scope (compEnvC scope cl Ca X.env) fp) T C WF elt ie)
    (ok : blkC X.N X.env.scope scope own = true := by rfl) (hs : ∀ x, foldedSetIterable iter X.env x = pure x := by intro _; rfl) : SE X T C W (.ListComp elt [⟨tg, iter, ifs, 0⟩] scope pos) (.lc (own.map (·.2)) ie itg it ics) := s_lc0 hc hN hi (blkOk_by ok) hg ht he hs
theorem s_lcR {elt tg iter : Expr} {ifs : List Expr} {scope : Scope} (own : List (Str × Nat)) (hc : X.calm = true) (hN : X.N.Nodup) (hi : SIr X T C W tg iter it)
    (hg : ∀ (s : Shared) (H : Hp) (Ca : Addr) (cl : List (Str × Addr)) (fp : List Addr), SGr (X.blk s H scope (compEnvC scope cl Ca X.env) fp) T C (IW (own.map (·.2))) tg itg)
    (ht : ∀ (s : Shared) (H : Hp) (Ca : Addr) (cl : List (Str × Addr)) (fp : List Addr), STs (X.blk s H scope (compEnvC scope cl Ca X.env) fp) T C WF ifs ics)
    (he : ∀ (s : Shared) (H : Hp) (Ca : Addr) (cl : List (Str × Addr)) (fp : List Addr), SE (X.blk s H scope (compEnvC scope cl Ca X.env) fp) T C WF elt ie)
    (ok : blkC X.N X.env.scope scope own = true := by rfl) (hs : ∀ x, foldedSetIterable iter X.env x = pure x := by intro _; rfl) : SE X T C W (.ListComp elt [⟨tg, iter, ifs, 0⟩] scope pos) (.lc (own.map (·.2)) ie itg it ics) := s_lc0 hc hN hi (blkOk_by ok) hg ht he hs
end
end Itp

set_option Elab.async false
set_option linter.all false
set_option autoImplicit false
set_option maxRecDepth 100000
set_option maxHeartbeats 4000000
/-! sorted() of plain data. -/
namespace Itp
open PySem L2
/-! ### insertion is the stable sort -/
section
open PySem.W
abbrev leD : D → D → Bool := dataLe false (fun d : D => d)
theorem leD_eq (a b : D) : leD a b = !dataLt b a := by unfold leD; rw [dataLe_eq]; rfl
theorem leD_tot : TotalLe leD := sortLe_total _ _ _
theorem lt_of_not {a b : D} (h : dataLt a b = false) : leD b a = true := by rw [leD_eq, h]; rfl
theorem le_of_lt {a b : D} (h : dataLt a b = true) : leD a b = true := by
  rcases leD_tot.total a b with h1 | h1
  · exact h1
  · rw [leD_eq, h] at h1; cases h1
theorem insD_mem {x z : D} : ∀ {l : List D}, z ∈ insD x l → z = x ∨ z ∈ l
  | [], h => by
    rw [insD] at h
    exact .inl (by simpa using h)
  | y :: r, h => by
    rw [insD] at h
    split at h
    · cases h with
      | head => exact .inl rfl
      | tail _ h => exact .inr h
    · cases h with
      | head => exact .inr List.mem_cons_self
      | tail _ h => exact (insD_mem h).elim .inl fun h => .inr (List.mem_cons_of_mem _ h)
theorem insD_srt {x : D} : ∀ {l : List D}, l.Pairwise (fun a b => leD a b = true) → (insD x l).Pairwise (fun a b => leD a b = true)
  | [], _ => by rw [insD]; exact List.pairwise_singleton _ _
  | y :: r, h => by
    rw [List.pairwise_cons] at h
    rw [insD]
    split
    · rename_i hlt
      have hxy := le_of_lt hlt
      refine List.pairwise_cons.mpr ⟨fun z hz => ?_, List.pairwise_cons.mpr h⟩
      cases hz with
      | head => exact hxy
      | tail _ hz => exact leD_tot.trans _ _ _ hxy (h.1 z hz)
    · rename_i hlt
      refine List.pairwise_cons.mpr ⟨fun z hz => ?_, insD_srt h.2⟩
      rcases insD_mem hz with rfl | hz
      · exact lt_of_not (by simpa using hlt)
      · exact h.1 z hz
theorem insD_flt {x c : D} : ∀ {l : List D}, l.Pairwise (fun a b => leD a b = true) → (insD x l).filter (sameRank leD c) = l.filter (sameRank leD c) ++ [x].filter (sameRank leD c)
  | [], _ => by rw [insD]; rfl
  | y :: r, h => by
    rw [List.pairwise_cons] at h
    rw [insD]
    split
    · rename_i hlt
      by_cases hc : sameRank leD c x = true
      · have none_ : (y :: r).filter (sameRank leD c) = [] := by
          rw [List.filter_eq_nil_iff]
          intro z hz hs
          have hyz : leD y z = true := by
            cases hz with
            | head => exact leD_tot.refl y
            | tail _ hz => exact h.1 z hz
          unfold sameRank at hs hc
          rw [Bool.and_eq_true] at hs hc
          have : leD y x = true := leD_tot.trans _ _ _ hyz (leD_tot.trans _ _ _ hs.2 hc.1)
          rw [leD_eq, show dataLt x y = true from hlt] at this
          cases this
        rw [List.filter_cons, if_pos hc, none_]
        simp [hc]
      · have hc' : sameRank leD c x = false := by simpa using hc
        rw [List.filter_cons, if_neg hc]
        simp [hc']
    · rw [List.filter_cons, List.filter_cons, insD_flt h.2]
      split
      · rfl
      · rfl
theorem foldl_ins : ∀ (l acc : List D), acc.Pairwise (fun a b => leD a b = true) → (l.foldl (fun acc x => insD x acc) acc).Pairwise (fun a b => leD a b = true) ∧ ∀ c, (l.foldl (fun acc x => insD x acc) acc).filter (sameRank leD c) = acc.filter (sameRank leD c) ++ l.filter (sameRank leD c)
  | [], acc, h => ⟨h, fun c => by simp⟩
  | x :: r, acc, h => by
    obtain ⟨h1, h2⟩ := foldl_ins r (insD x acc) (insD_srt h)
    refine ⟨h1, fun c => ?_⟩
    rw [List.foldl_cons, h2 c, insD_flt h, List.append_assoc, ← List.filter_append]
    rfl
theorem sortD_eq (l : List D) : sortD l = l.mergeSort leD := by
  obtain ⟨h1, h2⟩ := foldl_ins l [] List.Pairwise.nil
  exact sort_unique leD_tot h1 fun c => by rw [show sortD l = l.foldl (fun acc x => insD x acc) [] from rfl, h2 c]; rfl
end
/-! ### tuples, an empty one among them -/
section
open PySem.W PySem.Calls PyProof.Rows
variable {prog : Program} {w : World} {A : Around} {E : Value → Shared → Prop} {s : Shared}
theorem call_tuple_lt {Q : Value → Shared → Prop} {l b : Addr} {items items2 : Array Value} {e r : Nat → Bool} (hl : s.heap.IsTuple l items) (hb : s.heap.IsTuple b items2)
    (he : ∀ j (h1 : j < items.size) (h2 : j < items2.size), SeqAt.EqAt A.in1 s items[j] items2[j] (e j)) (hr : ∀ j (h1 : j < items.size) (h2 : j < items2.size), e j = false → SeqAt.RcLt A.in1 s items[j] items2[j] (r j))
    (h : Q (.bool (SeqAt.firstLt e r (decide (items.size < items2.size)) (List.range (min items.size items2.size)))) s) : wpAny (model prog w) A (call (.builtin "tuple.__lt__") [.ref l, .ref b]) Q E s := by
  obtain ⟨⟨cls, dd, data, sl⟩, ho, hc, n, hd⟩ := id hl
  obtain ⟨⟨cls2, dd2, data2, sl2⟩, ho2, hc2, n2, hd2⟩ := id hb
  simp only at hc hd hc2 hd2
  subst hc hd hc2 hd2
  exact call_meets F.slot_tuple_lt ⟨_, ho, rfl⟩ F.entry_tuple_lt (F.args_tuple_lt_2 _ _) (SeqAt.tuple_ltAt l b items items2 n n2 dd dd2 sl sl2 e r) ⟨ho, ho2, he, hr, h⟩
theorem oneLt_tup {xs ys : List PyData} {a b : Value} {as bs : List Addr} {Q : Bool → Shared → Prop} (ra : Reads s.heap a (.tuple xs) as) (rb : Reads s.heap b (.tuple ys) bs) (hal : alikeAll xs ys = true)
    (hu : A.units + min (PyData.tuple xs).depth (PyData.tuple ys).depth < cLine) (hq : Q (dataLt (.tuple xs) (.tuple ys)) s) : wpAny (model prog w) A (oneLt' true a b) Q E s := by
  cases ra with
  | @tuple l o vs n _ as₁ h1 h2 h3 h4 =>
    cases rb with
    | @tuple l' o' vs' n' _ bs₁ k1 k2 k3 k4 =>
      have n1 : vs.size = xs.length := by simpa using SeqAt.ReadsAll.length _ _ _ h4
      have n2 : vs'.size = ys.length := by simpa using SeqAt.ReadsAll.length _ _ _ k4
      rw [dataLt_tuple, ← firstLt_toks xs ys hal, ← n1, ← n2] at hq
      rw [oneLt'_eq]
      simp only [if_true]
      refine wpAny_bind (wpAny_cRoomFor (SeqAt.room_here hu) ?_)
      refine wpAny_bind (wpAny_callSpecialIfBound?_slot (T := "tuple") ⟨_, h1, h2⟩ F.slot_tuple_lt (call_tuple_lt (e := SeqAt.pairEq xs ys) (r := fun j => dataLt (xs.getD j .none) (ys.getD j .none)) ⟨_, h1, h2, _, h3⟩ ⟨_, k1, k2, _, k3⟩ (fun j j1 j2 => ?_) (fun j j1 j2 hj => ?_) ?_))
      · have := eqAt_alikeAll xs ys A.in1 s vs.toList vs'.toList _ _ h4 k4 hal (SeqAt.room_in hu) j (by simpa using j1) (by simpa using j2)
        simpa using this
      · have := rcLt_alikeAll xs ys A.in1 s vs.toList vs'.toList _ _ h4 k4 hal (SeqAt.room_in hu) j (by simpa using j1) (by simpa using j2) hj
        simpa using this
      · exact wpAny_truthy_bool hq
def isE : PyData → Bool
  | .tuple [] => true
  | _ => false
/-- the first items of tuples -/
theorem firsts_ok {M : Model} : ∀ {vs : List Value} {ds : List PyData}, EachIs (fun v d => ∃ as, Reads s.heap v d as) vs ds → (∀ d ∈ ds, ∃ xs, d = .tuple xs) → ∀ {Q : List (Option Value) → Shared → Prop},
    (∀ os : List (Option Value), os.map Option.isSome = ds.map (fun d => !isE d) → Q os s) → wpAny M A (vs.mapM firstOfTuple') Q E s
  | _, _, .nil, _, Q, h => by rw [List.mapM_nil]; exact wpAny_pure (h [] rfl)
  | _, _, .cons (a := v) (b := d) (as := vs) (bs := ds) ⟨as, r⟩ e, ht, Q, h => by
    obtain ⟨xs, rfl⟩ := ht d List.mem_cons_self
    cases r with
    | @tuple l o its n _ as₁ h1 h2 h3 h4 =>
      rw [List.mapM_cons]
      refine wpAny_bind ?_
      rw [kas_first_eq]
      refine wpAny_bind (Looks.here (show Looks M s.heap (typeOf (.ref l)) o.cls from (Looks.ld h1).andThen .now) ?_)
      rw [h2, if_neg (by decide)]
      refine wpAny_bind (listItems_at h1 h3 (wpAny_pure ?_))
      refine wpAny_bind (firsts_ok e (fun d hd => ht d (List.mem_cons_of_mem _ hd)) fun os ho => wpAny_pure (h (its[0]? :: os) ?_))
      rw [List.map_cons, List.map_cons, ho]
      congr 1
      cases xs with
      | nil =>
        have : its.size = 0 := by simpa using SeqAt.ReadsAll.length _ _ _ h4
        have e0 : its[0]? = none := by simp [this]
        rw [e0]; rfl
      | cons x r =>
        have : its.size = r.length + 1 := by simpa using SeqAt.ReadsAll.length _ _ _ h4
        have e0 : its[0]? = some its[0] := Array.getElem?_eq_getElem (by omega)
        rw [e0]; rfl
theorem sorts_empty {vs : List Value} {ds : List PyData} (e : EachIs (fun v d => ∃ as, Reads s.heap v d as) vs ds) (hal : AllAlike ds) (ht : ∀ d ∈ ds, ∃ xs, d = .tuple xs) (hm : PyData.tuple [] ∈ ds) (hu : ∀ d, d ∈ ds → A.units + d.depth < cLine) : SortsAt prog w A s (dataKind s.heap ds) vs := by
  have room : ∀ {d d' : PyData}, d ∈ ds → A.units + min d.depth d'.depth < cLine := fun {d d'} hd => Nat.lt_of_le_of_lt (Nat.add_le_add_left (Nat.min_le_left _ _) _) (hu d hd)
  refine ⟨fun v hv => ?_, ?_⟩
  · obtain ⟨d, hd, as, r⟩ := e.left v hv
    exact ⟨_, dataKind_some hal hd r⟩
  · have not_all : ∀ os : List (Option Value), os.map Option.isSome = ds.map (fun d => !isE d) → (os.toArray.all fun x => x.isSome) = false := by
      intro os ho
      rw [List.all_toArray, Bool.eq_false_iff]
      intro hall
      have : (os.map Option.isSome).all id = true := by rw [List.all_map]; exact hall
      rw [ho, List.all_map, List.all_eq_true] at this
      have := this _ hm
      exact Bool.noConfusion this
    by_cases h0 : ds.head? = some (.tuple [])
    · -- the first is empty
      refine ⟨oneType', ?_, fun h2 E Q hq => ?_⟩
      · intro E x y a b Q ha hb hq
        obtain ⟨d, as, hd, ra, rfl⟩ := dataKind_inv ha
        obtain ⟨d', as', hd', rb, rfl⟩ := dataKind_inv hb
        obtain ⟨xs, rfl⟩ := ht d hd
        obtain ⟨ys, rfl⟩ := ht d' hd'
        rw [keyLt'_oneType]
        exact oneLt_tup ra rb (by simpa [alike] using hal _ hd _ hd') (room hd) hq
      · rw [kat_kind_eq, List.mapM_toArray, map_eq_pure_bind]
        refine wpAny_bind (wpAny_bind (firsts_ok e ht fun os ho => wpAny_pure ?_))
        rw [if_neg (by rw [not_all os ho]; exact Bool.false_ne_true)]
        have hos : (os.toArray[0]?.bind id).isSome = false := by
          cases os with
          | nil => rfl
          | cons o r =>
            cases ds with
            | nil => cases ho
            | cons d r' =>
              have hd : d = .tuple [] := by simpa using h0
              rw [List.map_cons, List.map_cons] at ho
              have := (List.cons.inj ho).1
              rw [hd] at this
              show ((some o).bind id).isSome = false
              exact this
        rw [if_neg (by rw [hos]; exact Bool.false_ne_true)]
        rw [oneTypeOnly'_eq, List.mapM_toArray, map_eq_pure_bind]
        refine wpAny_bind (wpAny_bind (wpAny_bind (kas_mapM (r := Value.type "tuple") _ (fun v hv Q' hq => ?_) (wpAny_pure ?_))))
        · obtain ⟨d, hd, as, r⟩ := e.left v hv
          obtain ⟨xs, rfl⟩ := ht d hd
          exact (looks_reads r).here hq
        · obtain ⟨v₁, rest, rfl⟩ : ∃ v₁ rest, vs = v₁ :: rest := by
            cases vs with
            | nil => simp at h2
            | cons v r => exact ⟨v, r, rfl⟩
          have hall : ((List.map (fun _ => Value.type "tuple") (v₁ :: rest)).toArray.all fun x => x == Value.type "tuple") = true := by
            simp only [List.all_toArray, List.all_map, List.all_eq_true]
            intro _ _
            rfl
          have h0 : (List.map (fun _ => Value.type "tuple") (v₁ :: rest)).toArray[0]? = some (Value.type "tuple") := by simp
          rw [h0]
          simp only [hall, if_true]
          exact wpAny_pure (wpAny_pure hq)
    · refine ⟨general', ?_, fun h2 E Q hq => ?_⟩
      · intro E x y a b Q ha hb hq
        obtain ⟨d, as, hd, ra, rfl⟩ := dataKind_inv ha
        obtain ⟨d', as', hd', rb, rfl⟩ := dataKind_inv hb
        obtain ⟨xs, rfl⟩ := ht d hd
        have : keyLt' general' x y = oneLt' false x y := rfl
        rw [this]
        exact oneLt_alike (fun z => by cases z) ra rb (hal _ hd _ hd') (fun z => by cases z) (room hd) hq
      · rw [kat_kind_eq, List.mapM_toArray, map_eq_pure_bind]
        refine wpAny_bind (wpAny_bind (firsts_ok e ht fun os ho => wpAny_pure ?_))
        rw [if_neg (by rw [not_all os ho]; exact Bool.false_ne_true)]
        have hos : (os.toArray[0]?.bind id).isSome = true := by
          cases ds with
          | nil => cases hm
          | cons d r' =>
            cases os with
            | nil => cases ho
            | cons o r =>
              have hd : d ≠ .tuple [] := fun z => h0 (by rw [z]; rfl)
              rw [List.map_cons, List.map_cons] at ho
              have := (List.cons.inj ho).1
              show ((some o).bind id).isSome = true
              obtain ⟨xs, rfl⟩ := ht d List.mem_cons_self
              cases xs with
              | nil => exact absurd rfl hd
              | cons _ _ => exact this
        rw [if_pos hos]
        exact wpAny_pure hq
end
/-! ### the call -/
section
variable {X : Cx} {T : Ct} {C : CallF} {W : WX} {a : Expr} {ia : E} {p pos : Pos}
open PySem.W in
theorem homog_alike {xs : List D} (h : homog xs = true) : AllAlike xs ∧ (∀ d ∈ xs, SeqAt.shaped d = true ∧ plainD d = true) := by
  unfold homog at h
  rw [List.all_eq_true] at h
  refine ⟨fun d hd d' hd' => ?_, fun d hd => ?_⟩
  · have := h d hd
    rw [Bool.and_eq_true, List.all_eq_true] at this
    exact this.2 d' hd'
  · have := h d hd
    rw [Bool.and_eq_true, Bool.and_eq_true] at this
    exact this.1
open PySem.W in
theorem kinds_of {xs : List D} (h : homog xs = true) : Sortable xs ∨ ((∀ d ∈ xs, ∃ ys, d = .tuple ys) ∧ PyData.tuple [] ∈ xs) := by
  obtain ⟨al, sh⟩ := homog_alike h
  cases xs with
  | nil => exact .inl (.inl fun d hd => by cases hd)
  | cons x r =>
    by_cases ht : ∃ ys, x = .tuple ys
    · obtain ⟨ys, rfl⟩ := ht
      have all_ : ∀ d ∈ PyData.tuple ys :: r, ∃ ys, d = .tuple ys := fun d hd => by
        have := al _ List.mem_cons_self d hd
        cases d <;> simp [alike] at this
        exact ⟨_, rfl⟩
      by_cases hm : PyData.tuple [] ∈ PyData.tuple ys :: r
      · exact .inr ⟨all_, hm⟩
      · refine .inl (.inl fun d hd => ?_)
        obtain ⟨zs, rfl⟩ := all_ d hd
        cases zs with
        | nil => exact absurd hd hm
        | cons z q => exact ⟨z, q, rfl⟩
    · refine .inl (.inr fun d hd => ⟨fun z => ?_, fun ys z => ?_⟩)
      · subst z
        have := (sh _ hd).2
        cases this
      · subst z
        have := al _ hd _ List.mem_cons_self
        cases x <;> simp [alike] at this
        exact ht ⟨_, rfl⟩
theorem depth_le {d : D} (h : SeqAt.shaped d = true) : d.depth ≤ 64 := by
  unfold SeqAt.shaped at h
  rw [Bool.and_eq_true] at h
  exact of_decide_eq_true h.2
section
variable {P : Program} {w : World} {M : Addr → Prop} {H : Hp}
theorem each_rel {Tt : Ct} : ∀ {ds : List D} {vs : List V} {us : List Value}, DrAll P w Tt M H ds vs → Vals vs us → PySem.W.EachIs (fun (u : Value) (d : D) => ∃ v, RelV v u ∧ Dr P w Tt M H d v) us ds
  | _, _, _, .nil, r => by cases r; exact .nil
  | _, _, _, .cons a b, r => by
    cases r with
    | cons p q => exact .cons ⟨_, p, a⟩ (each_rel b q)
theorem rel_each {Tt : Ct} : ∀ {ds : List D} {us : List Value}, PySem.W.EachIs (fun (u : Value) (d : D) => ∃ v, RelV v u ∧ Dr P w Tt M H d v) us ds → ∃ vs, Vals vs us ∧ DrAll P w Tt M H ds vs
  | _, _, .nil => ⟨[], .nil, .nil⟩
  | _, _, .cons ⟨v, p, a⟩ r => by
    obtain ⟨vs, h1, h2⟩ := rel_each r
    exact ⟨v :: vs, .cons p h1, .cons a h2⟩
end
open PySem.W PySem.Calls PyProof.Rows in
theorem k_sorted (hu : X.A.units + 70 < cLine) : CallR X (.builtin "sorted") (rB1 X T .sorted) := by
  intro pins s σ H xs us Q I r h
  obtain ⟨m, as, rfl, vs, o⟩ := h
  obtain ⟨a, x, rfl, va, o⟩ := f1_out vs o
  replace o : OutD m (sortedD m.S a) Q := o
  unfold sortedD at o
  cases e : asLst m.S a with
  | none => rw [e] at o; exact o.elim
  | some ds =>
    rw [e] at o
    simp only at o
    split at o
    · rename_i hh
      obtain ⟨al, sh⟩ := homog_alike hh
      obtain ⟨p, xs, rfl, h1, r1⟩ := lst_of va e
      obtain ⟨u, rfl, rx⟩ := vals1 r
      cases rx
      obtain ⟨its, r', pl, hz⟩ := I.list (SqL.of h1)
      have hlen := r'.length
      have hlen2 := r1.length
      have e1 := each_rel r1 r'
      have e2 : EachIs (fun v d => ∃ as, Reads s.heap v d as) its ds := (each_mem e1).mono fun u d ⟨⟨v, p, q⟩, hm⟩ => Dp.reads I d v u (Dr.dp d v q (SeqAt.canLay_of_shaped (sh d hm).1)) p
      have e3 : EachIs (fun v d => ∃ as, Reads (sortingHeap (copyHeap s.heap its) (s.heap.objs.size + 1) its) v d as) its ds := e2.mono fun _ _ ⟨as, r⟩ => ⟨as, PyProof.Rows.Reads.keeps (fun _ _ => sorting_copy_old) r⟩
      have hub : ∀ d ∈ ds, X.A.in1.in1.units + d.depth < cLine := fun d hd => by
        have := depth_le (sh d hd).1
        show X.A.units + 1 + 1 + d.depth < cLine
        omega
      have S : SortsAt X.prog X.w X.A.in1.in1 { s with heap := sortingHeap (copyHeap s.heap its) (s.heap.objs.size + 1) its } (dataKind (sortingHeap (copyHeap s.heap its) (s.heap.objs.size + 1) its) ds) its := by
        rcases kinds_of hh with hk | ⟨ht, hm⟩
        · exact SortsAt.data (s := { s with heap := sortingHeap (copyHeap s.heap its) (s.heap.objs.size + 1) its }) e3 al hk hub
        · exact sorts_empty (s := { s with heap := sortingHeap (copyHeap s.heap its) (s.heap.objs.size + 1) its }) e3 al ht hm hub
      refine sorted_vals pl.isList S (by omega) ?_
      have e1' : EachIs (fun (u : Value) (d : D) => ∃ v, RelV v u ∧ Dr X.prog X.w T m.M m.H d v) its (ds.map fun d => d) := by rw [List.map_id']; exact e1
      have e3' : EachIs (fun v d => ∃ as, Reads (sortingHeap (copyHeap s.heap its) (s.heap.objs.size + 1) its) v ((fun d : D => d) d) as) its ds := e3
      have out := sortVals_data (enc := fun d : D => d) (h' := sortingHeap (copyHeap s.heap its) (s.heap.objs.size + 1) its) false e1 e3' (by rw [List.map_id']; exact al)
      rw [List.map_id'] at out
      have es : ds.mergeSort leD = sortD ds := (sortD_eq ds).symm
      rw [es] at out
      obtain ⟨vs', v1, v2⟩ := rel_each out
      obtain ⟨ep, at_⟩ := sortedAll_at s.heap its (sortVals (dataKind (sortingHeap (copyHeap s.heap its) (s.heap.objs.size + 1) its) ds) false its its).toArray
      have hl' : vs'.length ≤ sizeLine := by
        rw [v1.length, sortVals_length false rfl]
        omega
      refine ⟨.ref (s.heap.objs.size + 1), _, I.laid (t' := s.toks) (o := .lst vs') (fun b ob q => sortedAll_old q) (Nat.le_succ _) ⟨hl', _, ep, v1, at_⟩, rfl, o.new (dr_newL v2) _ (I.hok.fresh (Nat.le_succ _))⟩
    · exact o.elim
theorem s_sorted (hu : X.A.units + 70 < cLine) (hg : Gl X "sorted") (hm : X.mg "sorted" = none) (ha : SE X T C W a ia) (he : starEach [a] X.env = (false, eval a X.env) :: starEach [] X.env := by rfl) : SE X T C W (.Call (.Name "sorted" p) [a] [] pos) (.b1 .sorted ia) := s_callB (k_sorted hu) PyProof.Rows.boot_sorted hg hm ha (he := he)
end
end Itp

set_option Elab.async false
set_option linter.all false
set_option autoImplicit false
set_option maxRecDepth 100000
set_option maxHeartbeats 4000000
/-! enumerate() over lists, tuples, texts. -/
namespace Itp
open PySem L2
section
open PySem.AutoSeq1 (wpAny_loadPart')
theorem meets_enumerate_newT (l : Addr) (items : Array Value) (n : Nat) (dct : Option Addr) (sl : Array (Option Value)) :
    Meets (Builtin.«enumerate.__new__» ⟨[.type "enumerate", .ref l], []⟩) (fun _ R s => s.heap.get? l = some { cls := .type "tuple", dict := dct, data := .seq items n, slots := sl } ∧
      R (.ok (.ret (.ref (s.heap.push { cls := .type "tuple_iterator", data := .fields #[.ref l, .int 0 0] }).objs.size)))
        { s with heap := (s.heap.push { cls := .type "tuple_iterator", data := .fields #[.ref l, .int 0 0] }).push { cls := .type "enumerate", data := .fields #[.none, .bool false, .ref s.heap.objs.size, rawInt 0, .none, .none] } }) :=
  .of_wp fun prog w A R s h => by
    obtain ⟨hp, g, d, tk, os⟩ := s; obtain ⟨hl, h⟩ := h
    have hsub := sub_enumerate
    have hL : Heap.IsTuple (Shared.heap ⟨hp, g, d, tk, os⟩) l items := ⟨_, hl, rfl, n, rfl⟩
    wp_walk using wpAny_loadPart' hl
    refine wpAny_stack_any fun st => wpAny_pure ?_
    split
    · rename_i c _ _ _ _ _
      cases (c == Value.type "enumerate")
      · wp_walk using wpAny_loadPart' hl, wpAny_pyIter_tuple hL
        exact ⟨_, rfl, h⟩
      · wp_walk using wpAny_loadPart' hl, wpAny_pyIter_tuple hL
        exact ⟨_, rfl, h⟩
    · wp_walk using wpAny_loadPart' hl, wpAny_pyIter_tuple hL
      exact ⟨_, rfl, h⟩
variable {prog : Program} {w : World} {A : Around} {E : Value → Shared → Prop} {s : Shared}
theorem call_enumerate_tuple {l : Addr} {items : Array Value} {Q : Value → Shared → Prop} (hL : s.heap.IsTuple l items)
    (h : ∀ h', IsEnum h' (s.heap.objs.size + 1) s.heap.objs.size 0 .none → h'.IsTupleIter s.heap.objs.size l 0 → h'.objs.size = s.heap.objs.size + 2 →
      (∀ b o, s.heap.get? b = some o → h'.get? b = some o) → Q (.ref (s.heap.objs.size + 1)) { s with heap := h' }) :
    wpAny (model prog w) A (call (.type "enumerate") [.ref l]) Q E s := by
  obtain ⟨⟨c, dct, dt, sl⟩, hl, hc, n, hd⟩ := hL
  replace hc : c = .type "tuple" := hc
  replace hd : dt = .seq items n := hd
  subst hc hd
  refine callType_new F.called_enumerate (by decide) (F.typeCall_enumerate_1 _) (F.newCall_enumerate_1 _) (fun obj => F.args_object_init_2 obj _) F.entry_enumerate_new
    (meets_enumerate_newT l items n dct sl) ⟨hl, ?_⟩
  have hz : (s.heap.push { cls := .type "tuple_iterator", data := .fields #[.ref l, .int 0 0] }).objs.size = s.heap.objs.size + 1 := Heap.size_push ..
  show _ ∧ _
  rw [hz]
  have he : IsEnum ((s.heap.push { cls := .type "tuple_iterator", data := .fields #[.ref l, .int 0 0] }).push
      { cls := .type "enumerate", data := .fields #[.none, .bool false, .ref s.heap.objs.size, rawInt 0, .none, .none] }) (s.heap.objs.size + 1) s.heap.objs.size 0 .none := by
    have := Heap.get?_push_size (s.heap.push { cls := .type "tuple_iterator", data := .fields #[.ref l, .int 0 0] })
      (o := { cls := .type "enumerate", data := .fields #[.none, .bool false, .ref s.heap.objs.size, rawInt 0, .none, .none] }) rfl
    rw [hz] at this; exact this
  refine ⟨⟨_, he, rfl⟩, h _ he ⟨_, Heap.get?_push_of_some _ (Heap.get?_push_size _ rfl), rfl, rfl⟩ (by rw [Heap.size_push, hz]) fun b o x => Heap.get?_push_of_some _ (Heap.get?_push_of_some _ x)⟩
end
/-- what is enumerated, zipped -/
inductive Sc where
  | l (a : Addr) | t (a : Addr) (o : Obj) | s (x : Str)
def Sc.v : Sc → V
  | .l a => .ref a
  | .t a _ => .ref a
  | .s x => .str x
def Sc.is (H : Hp) : Sc → List V → Prop
  | .l a, xs => H a = some (.lst xs)
  | .t a o, xs => H a = some (.frz o (.tup xs))
  | .s x, xs => xs = x.cps.toList.map fun c => V.str ⟨#[c]⟩
def Sc.st (tk : Tok) (it : Addr) (i : Nat) (h : Heap) : Sc → Prop
  | .l a => h.IsListIter it a i
  | .t a _ => h.IsTupleIter it a i
  | .s x => h.IsStrIter it (strIterType x) x tk i
theorem Sc.st_obj {tk : Tok} {it : Addr} {i : Nat} {h : Heap} : ∀ {c : Sc}, c.st tk it i h → ∃ o, h.get? it = some o ∧ ∀ v, o.data ≠ .cell v
  | .l a, ⟨o, ho, _, hd⟩ => ⟨o, ho, fun v q => by rw [hd] at q; cases q⟩
  | .t a _, ⟨o, ho, _, hd⟩ => ⟨o, ho, fun v q => by rw [hd] at q; cases q⟩
  | .s x, ⟨o, ho, _, hd⟩ => ⟨o, ho, fun v q => by rw [hd] at q; cases q⟩
theorem Sc.st_keep {tk : Tok} {it : Addr} {i : Nat} {h h' : Heap} (k : ∀ o, h.get? it = some o → h'.get? it = some o) : ∀ {c : Sc}, c.st tk it i h → c.st tk it i h'
  | .l a, ⟨o, ho, r⟩ => ⟨o, k o ho, r⟩
  | .t a _, ⟨o, ho, r⟩ => ⟨o, k o ho, r⟩
  | .s x, ⟨o, ho, r⟩ => ⟨o, k o ho, r⟩
section
variable {X : Cx} {pins : List (Addr × Obj)} {σ : St} {H : Hp} {s : Shared}
theorem sc_draws (I : L2.Inv X pins σ H s) (hc : X.calm = true) {c : Sc} {xs : List V} {tk : Tok} {it : Addr} {i : Nat} (h : c.is H xs) (st : c.st tk it i s.heap) (hn : H it = none) :
    ∃ (fp : List Addr) (Pz : Nat → Value → Prop) (St : Nat → Heap → Prop), Draws X.prog X.w X.A.in1 it fp xs.length Pz St ∧ St i s.heap ∧ (∀ i v, Pz i v → ∃ x, xs[i]? = some x ∧ RelV x v) ∧ (∀ e, e ≠ it → H e = none → e ∉ fp) ∧ (∀ i h, St i h → c.st tk it i h) := by
  have hh : X.A.in1.handled = none := I.ok.hd hc
  cases c with
  | l a =>
    have h : H a = some (.lst xs) := h
    obtain ⟨its, rv, p, hz⟩ := I.list (SqL.of h)
    have hne : a ≠ it := ne_of_none h hn
    have hl : its.toArray.size = xs.length := by rw [List.size_toArray]; exact rv.length.symm
    have Dz := Draws.list (prog := X.prog) (w := X.w) hh it a hne its.toArray
    rw [hl] at Dz
    refine ⟨_, _, _, Dz, ⟨st, p.isList⟩, fun i v hv => ?_, fun e he hn' hm => ?_, fun i h z => z.1⟩
    · have hv : its[i]? = some v := by simpa using hv
      cases hx : xs[i]? with
      | none => rw [rv.none_of hx] at hv; cases hv
      | some x =>
        obtain ⟨u, hu, ru⟩ := rv.get hx
        rw [hv] at hu
        cases hu
        exact ⟨x, rfl, ru⟩
    · have : e = it ∨ e = a := by simpa using hm
      rcases this with rfl | rfl
      · exact he rfl
      · rw [h] at hn'; cases hn'
  | t a o =>
    have h : H a = some (.frz o (.tup xs)) := h
    obtain ⟨its, rv, p, hz⟩ := I.tuple (show SqT X.K H a xs from .inl (.inr ⟨o, h⟩))
    have hne : a ≠ it := ne_of_none h hn
    have hl : its.toArray.size = xs.length := by rw [List.size_toArray]; exact rv.length.symm
    have Dz := Draws.tuple (prog := X.prog) (w := X.w) hh it a hne its.toArray
    rw [hl] at Dz
    refine ⟨_, _, _, Dz, ⟨st, p⟩, fun i v hv => ?_, fun e he hn' hm => ?_, fun i h z => z.1⟩
    · have hv : its[i]? = some v := by simpa using hv
      cases hx : xs[i]? with
      | none => rw [rv.none_of hx] at hv; cases hv
      | some x =>
        obtain ⟨u, hu, ru⟩ := rv.get hx
        rw [hv] at hu
        cases hu
        exact ⟨x, rfl, ru⟩
    · have : e = it ∨ e = a := by simpa using hm
      rcases this with rfl | rfl
      · exact he rfl
      · rw [h] at hn'; cases hn'
  | s x =>
    have h : xs = x.cps.toList.map fun c => V.str ⟨#[c]⟩ := h
    have hl : x.cps.size = xs.length := by rw [h, List.length_map, Array.length_toList]
    have Dz := Draws.text (prog := X.prog) (w := X.w) hh it x tk
    rw [hl] at Dz
    refine ⟨_, _, _, Dz, st, fun i v hv => ?_, fun e he hn' hm => ?_, fun i h z => z⟩
    · obtain ⟨c, u, hc', rfl⟩ := hv
      refine ⟨.str ⟨#[c]⟩, ?_, u, rfl⟩
      rw [h, List.getElem?_map, Array.getElem?_toList, hc']
      rfl
    · exact he (by simpa using hm)
end
/-- the pairs (0, x0), (1, x1), .. -/
def ItE (c : Sc) (xs : List V) : It :=
  ⟨fun i H => c.is H xs ∧ i < xs.length, fun i H v H' => ∃ Tt x, v = .ref Tt ∧ H Tt = none ∧ H' = upd H Tt (.tup [.int (i : Nat), x]) ∧ xs[i]? = some x, fun i H => c.is H xs ∧ xs.length ≤ i⟩
theorem turn_enumG {P : Program} {w : World} {K : PySem.W.Frag} {elts : List Expr} {kk : Nat} {tpos : Pos} (c : Sc) (xs : List V) (tk : Tok) (e it : Addr) :
    Turn P w K (.Tuple elts kk tpos) (ItE c xs) [e, it] e (fun i h => i ≤ xs.length ∧ (∃ old, IsEnum h e it ((i : Nat) : Int) old) ∧ c.st tk it i h ∧ e ≠ it) where
  mem := by simp
  obj := fun i h st b hb => by
    obtain ⟨_, ⟨old, he⟩, hi, _⟩ := st
    have e' : b = e ∨ b = it := by simpa using hb
    rcases e' with z | z
    · rw [z]; exact ⟨_, he, fun v q => nomatch q⟩
    · rw [z]; exact Sc.st_obj hi
  keep := fun i h h' st k => let ⟨hn, ⟨old, he⟩, hi, hne⟩ := st; ⟨hn, ⟨old, k e (by simp) _ he⟩, Sc.st_keep (fun o q => k it (by simp) o q) hi, hne⟩
  item := by
    intro X hP hw hK hc i pins s σ H E I hf st hg
    subst hP hw hK
    obtain ⟨hn, ⟨old, he⟩, hit, hne⟩ := st
    obtain ⟨hs, hlt⟩ := hg
    obtain ⟨fp, Pz, St, D, st0, hP, hfp, back⟩ := sc_draws I hc hs hit (hf it (by simp)).1
    have hel : e < s.heap.objs.size := Heap.lt_size he
    have hil : it < s.heap.objs.size := by obtain ⟨_, q, _⟩ := Sc.st_obj hit; exact Heap.lt_size q
    refine wpAny_pyNext_enum_itemD D he st0 hlt hne (hfp e hne (hf e (by simp)).1) fun u h' tk' hu ho st1 hT hsz hk => ?_
    obtain ⟨x, hx, ru⟩ := hP i u hu
    refine ⟨_, rfl, wpAny_letOwnedTupleGo_enum (s := { s with heap := h', toks := tk' + 1 }) ho fun h'' he' sb => ?_⟩
    have hT2 : h''.get? s.heap.objs.size = some { cls := .type "tuple", data := .seq #[.int i tk', u] } := (sb.2 _ (Nat.ne_of_gt hel)).trans hT
    have new : ObjOk X.prog X.w (upd H s.heap.objs.size (.tup [.int (i : Nat), x])) h'' s.heap.objs.size (.tup [.int (i : Nat), x]) :=
      ⟨by show 2 ≤ sizeLine; decide, [.int i tk', u], .cons ⟨_, rfl⟩ (.cons ru .nil), ⟨_, hT2, rfl, _, rfl⟩⟩
    have I1 : L2.Inv X pins σ (upd H s.heap.objs.size (.tup [.int (i : Nat), x])) { s with heap := h'', toks := tk' + 1 } :=
      I.turnedNew (ch := [e, it]) (fun b ob hb q => (sb.2 b (fun z => hb (by simp [z]))).trans (hk b ob (fun z => hb (by simp [z])) (fun z => hb (by simp [z])) q)) hf (Nat.le_refl _) new
    refine ⟨.ref s.heap.objs.size, _, I1, rfl, ⟨_, x, rfl, I.hok.fresh (Nat.le_refl _), rfl, hx⟩, ⟨hlt, ⟨u, ?_⟩, Sc.st_keep (fun o q => (sb.2 it (Ne.symm hne)).trans q) (back _ _ st1), hne⟩, fun b hb => ?_⟩
    · have e1 : ((i + 1 : Nat) : Int) = (i : Int) + 1 := by omega
      rw [e1]; exact he'
    · have hb' : b < s.heap.objs.size := by
        have e' : b = e ∨ b = it := by simpa using hb
        rcases e' with z | z
        · rw [z]; exact hel
        · rw [z]; exact hil
      rw [upd_ne (Nat.ne_of_lt hb')]
      exact (hf b hb).1
  done := by
    intro X hP hw hK hc i pins s σ H E I hf st hg
    subst hP hw hK
    obtain ⟨hn, ⟨old, he⟩, hit, hne⟩ := st
    obtain ⟨hs, hge⟩ := hg
    have : i = xs.length := Nat.le_antisymm hn hge
    subst this
    obtain ⟨fp, Pz, St, D, st0, hP, hfp, back⟩ := sc_draws I hc hs hit (hf it (by simp)).1
    obtain ⟨f0, f1, f2, f3, f4, f5⟩ := hf it (by simp)
    exact wpAny_pyNext_enum_endD D he st0 fun h' eb => ⟨rfl, I.turned (t' := s.toks) (fun b o hb q => eb b o hb q) f0 f1 f3 f4 f5⟩
  self := fun A i s Q E st h => let ⟨_, ⟨_, he⟩, _⟩ := st; wpAny_pyIter_enum he h
section
variable {X : Cx} {T : Ct} {C : CallF} {W : WX} {a : Expr} {ia : E} {p pos tpos : Pos} {elts : List Expr} {kk : Nat}
theorem pi_enumG {e : Expr} {ta : TA} (hg : Gl X "enumerate") (hm : X.mg "enumerate" = none) (ha : PA X [e] ta) (hs : starEach [e] X.env = [(false, eval e X.env)] := by rfl) :
    PI X (.Tuple elts kk tpos) (.Call (.Name "enumerate" p) [e] [] pos) (fun σ H R => ta σ H fun vs H1 => ∃ c xs, vs = [Sc.v c] ∧ c.is H1 xs ∧ R (ItE c xs) H1) := by
  refine ⟨fun pins s σ H R I h => ?_⟩
  refine PyProof.Rows.Call_ (ld_blt I hg hm PyProof.Rows.boot_enumerate (PyProof.Rows.callWith_type1 (thn (ha.run pos pins s σ H _ I h) fun us s1 ⟨vs, H1, I1, r1, q1⟩ => ?_) hs rfl))
  obtain ⟨c, xs, ex, hq, q⟩ := q1
  subst ex
  have fin : ∀ (tk : Tok) (h' : Heap), IsEnum h' (s1.heap.objs.size + 1) s1.heap.objs.size 0 .none → c.st tk s1.heap.objs.size 0 h' → (∀ b o, s1.heap.get? b = some o → h'.get? b = some o) →
      PIE X pins σ (.Tuple elts kk tpos) R (.ref (s1.heap.objs.size + 1)) { s1 with heap := h' } := fun tk h' he hit hk => by
    have I2 : L2.Inv X pins σ H1 { s1 with heap := h' } := I1.kept (t' := s1.toks) hk
    refine ⟨s1.heap.objs.size + 1, [s1.heap.objs.size + 1, s1.heap.objs.size], _, _, H1, rfl, I2, turn_enumG c xs tk (s1.heap.objs.size + 1) s1.heap.objs.size, ⟨Nat.zero_le _, ⟨.none, he⟩, hit, Nat.succ_ne_self _⟩, fun b hb => ?_, q⟩
    have e' : b = s1.heap.objs.size + 1 ∨ b = s1.heap.objs.size := by simpa using hb
    have hle : s1.heap.objs.size ≤ b := by
      rcases e' with z | z
      · rw [z]; exact Nat.le_add_right _ _
      · rw [z]; exact Nat.le_refl _
    exact I1.fpOk hle (I1.hok.fresh hle)
  cases r1 with
  | cons r rr =>
    cases rr
    cases c with
    | l a =>
      cases r
      obtain ⟨its, rv, p', hz⟩ := I1.list (SqL.of hq)
      exact call_enumerate_list p'.isList fun h' he hit hsz hk => wpAny_pyIter_enum he (fin 0 h' he hit hk)
    | t a o =>
      cases r
      obtain ⟨its, rv, p', hz⟩ := I1.tuple (show SqT X.K H1 a xs from .inl (.inr ⟨o, hq⟩))
      exact call_enumerate_tuple (show s1.heap.IsTuple a its.toArray from p') fun h' he hit hsz hk => wpAny_pyIter_enum he (fin 0 h' he hit hk)
    | s x =>
      obtain ⟨t, rfl⟩ := r
      exact call_enumerate_str fun h' he hit hsz hk => wpAny_pyIter_enum he (fin t h' he hit hk)
section
variable {P : Program} {w : World} {T : Ct} {K : PySem.W.Frag}
/-- data that may be enumerated or zipped -/
theorem sc_of {m : Mem P w T} {u : Vl} {y : V} {xs : List D} (hv : VR K m u y) (hu : itemsS u = some xs) : ∃ (c : Sc) (vs : List V), y = c.v ∧ DrAll P w T m.M m.H xs vs ∧ ∀ m' : Mem P w T, Fut m m' → c.is m'.H vs := by
  unfold itemsS at hu
  split at hu
  · cases hu
    obtain ⟨p, vs, rfl, h1, n1, r1⟩ := Dr.lst_inv hv
    exact ⟨.l p, vs, rfl, r1, fun m' f => (f.keep _ _ h1 n1).1⟩
  · cases hu
    obtain ⟨p, vs, rfl, h1, n1, r1⟩ := Dr.tup_inv hv
    obtain ⟨o1, _, eh⟩ := id h1
    exact ⟨.t p o1, vs, rfl, r1, fun m' f => (f.keep _ _ eh n1).1⟩
  · split at hu
    · rename_i x hx
      cases hu
      cases Dr.str_inv hv
      refine ⟨.s x, _, rfl, ?_, fun m' f => rfl⟩
      generalize x.cps.toList = l
      induction l with
      | nil => exact .nil
      | cons c r ih => exact .cons (.str _) ih
    · cases hu
  · cases hu
theorem enum_get {xs : List D} {i : Nat} {x : D} (h : (enumD xs)[i]? = some x) : ∃ d, xs[i]? = some d ∧ x = .tuple [.int (i : Nat), d] := by
  unfold enumD at h
  rw [List.getElem?_map, List.getElem?_zipIdx] at h
  obtain ⟨q, hq, rfl⟩ := Option.map_eq_some_iff.mp h
  obtain ⟨d, hd, rfl⟩ := Option.map_eq_some_iff.mp hq
  exact ⟨d, hd, by simp⟩
theorem it_enum {m : Mem P w T} {c : Sc} {xs : List D} {vs : List V} (r : DrAll P w T m.M m.H xs vs) (hc : ∀ m' : Mem P w T, Fut m m' → c.is m'.H vs) : ItR P w T (RwR P w T K) m (enumD xs) (ItE c vs) := by
  intro m' f i
  have r' := DrAll.mono f.keep _ _ r
  refine ⟨fun x hx => ?_, fun hi => ⟨hc m' f, ?_⟩⟩
  · obtain ⟨d, hd, rfl⟩ := enum_get hx
    obtain ⟨v, hv, hdv⟩ := r'.get hd
    refine ⟨⟨hc m' f, (List.getElem?_eq_some_iff.mp hv).1⟩, ?_⟩
    rintro y H' ⟨Tt, z, rfl, hT, rfl, hz⟩
    rw [hv] at hz
    cases hz
    refine ⟨m'.add Tt (.tup [.int (i : Nat), v]) hT, rfl, m'.add_fut hT, rfl, _, Tt, _, rfl, rfl, .inl (.inl upd_same), .cons (.int _) (.cons (hdv.add hT) .nil)⟩
  · unfold enumD at hi
    rw [List.length_map, List.length_zipIdx] at hi
    rw [← r.length]
    exact hi
end
theorem i_enum (hg : Gl X "enumerate") (hm : X.mg "enumerate" = none) (ha : SE X T C W a ia) (hs : starEach [a] X.env = [(false, eval a X.env)] := by rfl) : SIr X T C W (.Tuple elts kk tpos) (.Call (.Name "enumerate" p) [a] [] pos) (.enm ia) := by
  refine imI (pi_enumG (elts := elts) (kk := kk) (tpos := tpos) hg hm (s_acons ha s_anil hs) hs) fun σ H R h => ?_
  obtain ⟨env, m, rfl, er, o⟩ := h
  replace o : OutG (ItR X.prog X.w T (RwR X.prog X.w T X.K)) W σ m (((sem C ia).v env m.S).bind fun x S => enmI x S) R := o
  refine ⟨env, m, rfl, er, (bind1A (md := sem C ia) (f := fun x S => enmI x S) o).imp ?_⟩
  rintro ys H1 ⟨y, u, m1, rfl, f1, rfl, hv, q1⟩
  unfold enmI at q1
  cases hu : itemsS u with
  | none => simp only [hu] at q1; exact q1.elim
  | some xs =>
    simp only [hu] at q1
    obtain ⟨c, vs, rfl, r, hc⟩ := sc_of hv hu
    exact ⟨c, vs, rfl, hc m1 (Fut.refl m1), q1.get (it_enum r hc)⟩
end
end Itp

set_option Elab.async false
set_option linter.all false
set_option autoImplicit false
set_option maxRecDepth 100000
set_option maxHeartbeats 4000000
/-! A comprehension stored at once, a field stored, an own ==. -/
namespace Itp
open PySem L2
section
variable {X : Cx} {T : Ct} {C : CallF} {W : WX} {fu : Nat} {a b e o : Expr} {ia ib ie io it itg : E} {ics : List E} {pos p : Pos} {x : Str}
theorem t_setLc0 {R : Mem X.prog X.w T → Vl → V → Prop} {i : Nat} {y : Str} {py spos : Pos} {elt tg iter : Expr} {ifs : List Expr} {scope : Scope} {own : List (Str × Nat)} (hc : X.calm = true) (hN : X.N.Nodup) (hy : X.N[i]? = some y) (hyl : X.env.scope.names.lookup y = some .local)
    (hsw : swapsWith (.ListComp elt [⟨tg, iter, ifs, 0⟩] scope pos) (some (.Name y py)) spos.line X.env = pure true) (hi : PI X tg iter (tI X.prog X.w T X.K R (sem C it).i W)) (ok : BlkOk X.N X.env.scope scope own)
    (hg : ∀ (s : Shared) (H : Hp) (Ca : Addr) (cl : List (Str × Addr)) (fp : List Addr), PG (X.blk s H scope (compEnvC scope cl Ca X.env) fp) tg (tG X.prog X.w T X.K (IW (own.map (·.2))) R (sem C itg).a))
    (ht : ∀ (s : Shared) (H : Hp) (Ca : Addr) (cl : List (Str × Addr)) (fp : List Addr), STs (X.blk s H scope (compEnvC scope cl Ca X.env) fp) T C WF ifs ics)
    (he : ∀ (s : Shared) (H : Hp) (Ca : Addr) (cl : List (Str × Addr)) (fp : List Addr), SE (X.blk s H scope (compEnvC scope cl Ca X.env) fp) T C WF elt ie)
    (hs : ∀ x, foldedSetIterable iter X.env x = pure x) : SS X T C W fu (.Assign [.Name y py] (.ListComp elt [⟨tg, iter, ifs, 0⟩] scope pos) spos) (.asg (.var i) (.lc (own.map (·.2)) ie itg it ics)) := by
  refine imS (ps_setLc (tt := tT X.prog X.w T X.K (tests (sems C ics)) WF) (te := tE X.prog X.w T X.K (sem C ie).v WF) hc hN hy hyl hsw hi ok hg ht he hs) fun D σ H h => ?_
  obtain ⟨env, m, rfl, er, o⟩ := h
  refine lc_read (W := W) ⟨env, m, rfl, er, (OutS.bindS (R := VR X.K) (r := evalE C (.lc (own.map (·.2)) ie itg it ics) env m.S) er o).imp ?_⟩
  rintro z H1 ⟨u, m1, f1, rfl, hv, o1⟩
  exact OutS.nx (env := env.set i (some u)) o1 ((er.mono f1).set hv)
theorem t_setLc {i : Nat} {y : Str} {py spos : Pos} {elt tg iter : Expr} {ifs : List Expr} {scope : Scope} (own : List (Str × Nat)) (hc : X.calm = true) (hN : X.N.Nodup) (hi : SI X T C W tg iter it)
    (hg : ∀ (s : Shared) (H : Hp) (Ca : Addr) (cl : List (Str × Addr)) (fp : List Addr), SG (X.blk s H scope (compEnvC scope cl Ca X.env) fp) T C (IW (own.map (·.2))) tg itg)
    (ht : ∀ (s : Shared) (H : Hp) (Ca : Addr) (cl : List (Str × Addr)) (fp : List Addr), STs (X.blk s H scope (compEnvC scope cl Ca X.env) fp) T C WF ifs ics)
    (he : ∀ (s : Shared) (H : Hp) (Ca : Addr) (cl : List (Str × Addr)) (fp : List Addr), SE (X.blk s H scope (compEnvC scope cl Ca X.env) fp) T C WF elt ie)
    (hy : X.N[i]? = some y := by rfl) (hyl : X.env.scope.names.lookup y = some .local := by rfl) (hsw : swapsWith (.ListComp elt [⟨tg, iter, ifs, 0⟩] scope pos) (some (.Name y py)) spos.line X.env = pure true := by rfl)
    (ok : blkC X.N X.env.scope scope own = true := by rfl) (hs : ∀ x, foldedSetIterable iter X.env x = pure x := by intro _; rfl) :
    SS X T C W fu (.Assign [.Name y py] (.ListComp elt [⟨tg, iter, ifs, 0⟩] scope pos) spos) (.asg (.var i) (.lc (own.map (·.2)) ie itg it ics)) := t_setLc0 hc hN hy hyl hsw hi (blkOk_by ok) hg ht he hs
theorem t_setLcR {i : Nat} {y : Str} {py spos : Pos} {elt tg iter : Expr} {ifs : List Expr} {scope : Scope} (own : List (Str × Nat)) (hc : X.calm = true) (hN : X.N.Nodup) (hi : SIr X T C W tg iter it)
    (hg : ∀ (s : Shared) (H : Hp) (Ca : Addr) (cl : List (Str × Addr)) (fp : List Addr), SGr (X.blk s H scope (compEnvC scope cl Ca X.env) fp) T C (IW (own.map (·.2))) tg itg)
    (ht : ∀ (s : Shared) (H : Hp) (Ca : Addr) (cl : List (Str × Addr)) (fp : List Addr), STs (X.blk s H scope (compEnvC scope cl Ca X.env) fp) T C WF ifs ics)
    (he : ∀ (s : Shared) (H : Hp) (Ca : Addr) (cl : List (Str × Addr)) (fp : List Addr), SE (X.blk s H scope (compEnvC scope cl Ca X.env) fp) T C WF elt ie)
    (hy : X.N[i]? = some y := by rfl) (hyl : X.env.scope.names.lookup y = some .local := by rfl) (hsw : swapsWith (.ListComp elt [⟨tg, iter, ifs, 0⟩] scope pos) (some (.Name y py)) spos.line X.env = pure true := by rfl)
    (ok : blkC X.N X.env.scope scope own = true := by rfl) (hs : ∀ x, foldedSetIterable iter X.env x = pure x := by intro _; rfl) :
    SS X T C W fu (.Assign [.Name y py] (.ListComp elt [⟨tg, iter, ifs, 0⟩] scope pos) spos) (.asg (.var i) (.lc (own.map (·.2)) ie itg it ics)) := t_setLc0 hc hN hy hyl hsw hi (blkOk_by ok) hg ht he hs
/-! ### o.f = e -/
theorem put_two {P : Program} {w : World} {T : Ct} {M : Addr → Prop} {H : Hp} {f : Str} {d : D} {v : V} (hd : Dr P w T M H d v) : ∀ {fs : List (Str × D)} {gs : List (Str × V)}, fs.map (·.1) = gs.map (·.1) → DrAll P w T M H (fs.map (·.2)) (gs.map (·.2)) →
    (putFD f d fs).map (·.1) = (putF f v gs).map (·.1) ∧ DrAll P w T M H ((putFD f d fs).map (·.2)) ((putF f v gs).map (·.2))
  | [], [], _, _ => ⟨rfl, .cons hd .nil⟩
  | [], _ :: _, e, _ => by cases e
  | _ :: _, [], e, _ => by cases e
  | (a, x) :: r, (b, y) :: s, e, r1 => by
    injection e with e1 e2
    have e1 : a = b := e1
    subst e1
    cases r1 with
    | cons p q =>
      unfold putFD putF
      by_cases h : a = f
      · subst h
        simp only [if_true]
        exact ⟨by simp [e2], .cons hd q⟩
      · simp only [if_neg h]
        obtain ⟨h1, h2⟩ := put_two hd e2 q
        exact ⟨by simp only [List.map_cons, h1], .cons p h2⟩
theorem t_fld {c ix : Nat} {fl : Str} {p2 : Pos} (cl : Cls X.K (T.ca c)) (na : NoAttr X.K (T.ca c) fl) (hv : SE X T C W e ie) (ho : SE X T C WF o io) (hs : swapsWith e (some (.Attribute o fl p2)) pos.line X.env = pure false := by rfl) :
    SS X T C W fu (.Assign [.Attribute o fl p2] e pos) (.asg (.fld c ix fl io) ie) := by
  refine imS (ps_fld ho hv hs) fun D σ H h => ?_
  obtain ⟨env, m, rfl, er, oo⟩ := h
  refine ⟨env, m, rfl, er, (OutS.bindS (R := VR X.K) (r := evalE C ie env m.S) er oo).imp ?_⟩
  rintro y H1 ⟨u, m1, f1, rfl, hy, o1⟩
  replace o1 : OutS X.K W D m1 ((((sem C io).v env m1.S).bind fun x S => setFld c fl x u env S).okS fun env S => .nx env S) := o1
  refine ⟨env, m1, rfl, er.mono f1, ?_⟩
  cases hr : (sem C io).v env m1.S with
  | er => rw [hr] at o1; exact o1.elim
  | ex c' fs S => rw [hr] at o1; exact o1.elim
  | ok ov S =>
    rw [hr] at o1
    rintro x m2 f2 rfl hx
    have o2 := OutS.fut f2 o1
    replace o2 : OutS X.K W D m2 ((setFld c fl ov u env m2.S).okS fun env S => .nx env S) := o2
    unfold setFld at o2
    split at o2
    · rename_i n z
      split at o2
      · rename_i c' fs hS
        split at o2
        · rename_i hcond
          rw [Bool.and_eq_true] at hcond
          have ec : c' = c := of_decide_eq_true hcond.1
          subst ec
          have hl : fs.length ≤ 100 := Nat.le_of_ble_eq_true hcond.2
          obtain ⟨pp, hp, rfl⟩ := hx
          obtain ⟨dx, gs, h1, h2, h3⟩ := m2.obj n pp _ hp hS
          have hgl : gs.length = fs.length := by
            have := congrArg List.length h2
            simpa using this.symm
          have hy2 := Dr.mono f2.keep _ _ hy
          obtain ⟨m3, e3, h3', f3⟩ := m2.putAt (o' := .ins c' (putFD fl z fs)) (u := .ins (T.ca c') dx (putF fl y gs)) hp hS rfl (fun M' k => by
            obtain ⟨q1, q2⟩ := put_two (f := fl) (Dr.mono k _ _ hy2) h2 (DrAll.mono k _ _ h3)
            exact ⟨dx, _, upd_same, q1, q2⟩)
          refine ⟨pp.1, _, dx, gs, rfl, h1, cl, na, by omega, ?_⟩
          rw [← h3']
          exact o2 σ m3 f3 e3 (((er.mono f1).mono f2).mono f3)
        · exact o2.elim
      · exact o2.elim
    · exact o2.elim
/-! ### an own == -/
theorem op_own {CX : CXT} {k : Nat} {f Cl : Addr} {fd : FuncData} {ps : List Str} {sp : Sp} {E : XK} (F : FnOk X.prog X.w X.K X.mg X.base CX k f fd ps sp) (hr : Room k X.A)
    (hs : PySem.W.findIn X.K (.ref Cl) "__eq__" = some (some (.ref f))) (hf : PySem.W.isFn X.K (.ref f) = true) (hb : Binds X.K fd ps []) (hx : Passes CX X.nox E) :
    OpR X (compareOp .Eq) (fun x y H Q => ∃ a b dx dy fs gs, x = .ref a ∧ y = .ref b ∧ H a = some (.ins Cl dx fs) ∧ (H b = some (.ins Cl dy gs) ∨ ∃ xs, SqT X.K H b xs) ∧ sp [.ref a, .ref b] H (fun v H' => ∃ k, v = .bl k ∧ Q (.bl k) H') E) := by
  intro pins s σ H x y v u Q I rx ry d
  obtain ⟨a, b, dx, dy, fs, gs, rfl, rfl, ha, hb', hsp⟩ := d
  cases rx
  cases ry
  obtain ⟨mA, J, _⟩ := ins_get I.hok ha
  obtain ⟨od, J, _⟩ := J.look
  obtain ⟨m, hF⟩ := I.fr
  show wpAny (model X.prog X.w) X.A (richCompare .Eq (.ref a) (.ref b)) (EP X pins σ Q) X.xe s
  obtain ⟨tb, hty, hnf⟩ : ∃ tb, PySem.W.Looks (model X.prog X.w) s.heap (typeOf (.ref b)) tb ∧ PySem.W.notFirst X.K Cl tb = true := by
    rcases hb' with hb' | ⟨xs, hb'⟩
    · obtain ⟨mB, J', _⟩ := ins_get I.hok hb'
      obtain ⟨od', J', _⟩ := J'.look
      exact ⟨_, J'.type, by simp [PySem.W.notFirst]⟩
    · obtain ⟨its, rv, ht, hz⟩ := I.tuple hb'
      obtain ⟨o, ho, hc, _⟩ := ht
      exact ⟨.type "tuple", fun A Q E s' k q => wpAny_typeOf_ref (k _ _ ho) (by rw [hc]; exact q), by unfold PySem.W.notFirst; kernel_rfl⟩
  refine PySem.W.cmp_K (op := .Eq) (tb := tb) hr.units0 hF I.ok.mod.kin J hty hnf hs hf ?_
  have hl := F.len _ _ _ _ hsp
  have r2 : Vals [V.ref a, V.ref b] [Value.ref a, Value.ref b] := .cons rfl (.cons rfl .nil)
  refine wpAny_call (codeAny_mono (F.run X.A X.stack s H ⟨[.ref a, .ref b], []⟩ [.ref a, .ref b] [.ref a, .ref b] _ E hr I.env0 (by
    have := hb s [.ref a, .ref b] I.kIn (by simpa using hl)
    simpa using this) r2 hsp) fun r s' hq => ?_)
  cases r with
  | error e => exact False.elim (hx pins σ H s e s' (I.wish _) hq)
  | ok fl =>
    cases fl with
    | ret w =>
      obtain ⟨z, H', I', rz, kk, ez, q⟩ := I.after hq
      subst ez
      cases rz
      exact ⟨.bl kk, H', I', rfl, q⟩
    | next => exact False.elim hq
    | brk => exact False.elim hq
    | cont => exact False.elim hq
def rOwn (X : Cx) (T : Ct) (C : CallF) (c f : Nat) : R2 := fun x y H Q => ∃ a b dx dy fs gs, x = .ref a ∧ y = .ref b ∧ H a = some (.ins (T.ca c) dx fs) ∧ (H b = some (.ins (T.ca c) dy gs) ∨ ∃ xs, SqT X.K H b xs) ∧ spI X.prog X.w X.K T C f [.ref a, .ref b] H (fun v H' => ∃ k, v = .bl k ∧ Q (.bl k) H') (fun _ _ _ => False)
theorem oeq_read {c f : Nat} {σ : St} {H : Hp} {Q Q2 : VK} (kq : ∀ k H, Q (.bl k) H → Q2 (.bl k) H) (h : tE X.prog X.w T X.K (sem C (.oeq c f ia ib)).v W σ H Q) : tOp (rOwn X T C c f) (tE X.prog X.w T X.K (sem C ia).v W) (tE X.prog X.w T X.K (sem C ib).v W) σ H Q2 := by
  obtain ⟨env, m, rfl, er, oo⟩ := h
  refine ⟨env, m, rfl, er, (OutG.bind (R := VR X.K) (R' := VR X.K) (r := (sem C ia).v env m.S) oo).imp ?_⟩
  rintro y H1 ⟨u, m1, f1, rfl, hv, o1⟩
  refine ⟨env, m1, rfl, er.mono f1, (OutG.bind (R := VR X.K) (R' := VR X.K) (r := (sem C ib).v env m1.S) o1).imp ?_⟩
  rintro z H2 ⟨v, m2, f2, rfl, hz, q⟩
  split at q
  · rename_i hi
    rw [Bool.and_eq_true] at hi
    obtain ⟨a1, dx, gs, rfl, h1⟩ := insOf_inv (hv.mono f2) hi.1
    have hy : ∃ b1 dy hs', z = .ref b1 ∧ (m2.H b1 = some (.ins (T.ca c) dy hs') ∨ ∃ xs, SqT X.K m2.H b1 xs) := by
      rcases Bool.or_eq_true_iff.mp hi.2 with h2 | h2
      · obtain ⟨b1, dy, hs', e, h2⟩ := insOf_inv hz h2
        exact ⟨b1, dy, hs', e, .inl h2⟩
      · unfold isTupV at h2
        split at h2
        · obtain ⟨p, xs, e, h1, _, r⟩ := Dr.tup_inv hz
          exact ⟨p, dx, gs, e, .inr ⟨xs, sqT h1⟩⟩
        · cases h2
    obtain ⟨b1, dy, hs', rfl, h2⟩ := hy
    refine ⟨a1, b1, dx, dy, gs, hs', rfl, rfl, h1, h2, m2, [u, v], rfl, .cons (hv.mono f2) (.cons hz .nil), ?_⟩
    cases hc : C f [u, v] m2.S with
    | ok w S =>
      rw [hc] at q
      rintro w' m3 f3 e3 hw
      unfold boolEx at q
      split at q
      · rename_i b' S' heq
        cases heq
        cases Dr.bl_inv hw
        exact ⟨b', rfl, kq _ _ (q _ m3 f3 e3 (.bl b'))⟩
      · exact q.elim
    | ex c fs S => rw [hc] at q; exact q.elim
    | er => rw [hc] at q; exact q.elim
  · exact q.elim
theorem s_oeq {c k f : Nat} {ad : Addr} (F : FnE X.prog X.w X.K X.mg X.base T C k f ad) (hr : Room k X.A) (hs : PySem.W.findIn X.K (.ref (T.ca c)) "__eq__" = some (some (.ref ad))) (hf : PySem.W.isFn X.K (.ref ad) = true) (ha : SE X T C W a ia) (hb : SE X T C W b ib) :
    SE X T C W (.Compare a [.Eq] [b] pos) (.oeq c f ia ib) := by
  obtain ⟨fd, ps, ok, hbd⟩ := F.ok
  exact imE (pe_cmpR (r := rOwn X T C c f) (op_own ok hr hs hf hbd (pass_no X)) ha hb (nomark b)) fun σ H Q h => oeq_read (fun _ _ h => h) h
theorem t_oeq {c k f : Nat} {ad : Addr} (F : FnE X.prog X.w X.K X.mg X.base T C k f ad) (hr : Room k X.A) (hs : PySem.W.findIn X.K (.ref (T.ca c)) "__eq__" = some (some (.ref ad))) (hf : PySem.W.isFn X.K (.ref ad) = true) (ha : SE X T C W a ia) (hb : SE X T C W b ib) :
    ST X T C W (.Compare a [.Eq] [b] pos) (.oeq c f ia ib) := by
  obtain ⟨fd, ps, ok, hbd⟩ := F.ok
  exact imT (pt_cmpR (r := rOwn X T C c f) (op_own ok hr hs hf hbd (pass_no X)) ha hb (nomark b)) fun σ H Q h => oeq_read (Q2 := fun x H' => ∃ k, x = .bl k ∧ Q k H') (fun k H h => ⟨k, rfl, trK_bool h⟩) (tT_of h)
end
end Itp

set_option Elab.async false
set_option linter.all false
set_option autoImplicit false
set_option maxRecDepth 100000
set_option maxHeartbeats 4000000
/-! Defs: what the interpreter says of a call is what the call does. -/
namespace Itp
open PySem L2
open PyProof.Rows (envOfC)
section
variable {P : Program} {w : World} {K : PySem.W.Frag} {mg : Str → Option Value} {base : Heap} {T : Ct}
theorem envR_start {m : Mem P w T} {as : List Vl} {vs : List V} (h : VRs K m as vs) (k : Nat) : EnvR K m (as.map some ++ List.replicate k none) (vs.map some ++ List.replicate k none) := by
  have hl := h.length
  refine ⟨by simp [hl], fun i v e => ?_⟩
  have get : ∀ {as : List Vl} {vs : List V}, VRs K m as vs → ∀ (i : Nat) (v : Vl), as[i]? = some v → ∃ x, vs[i]? = some x ∧ VR K m v x := by
    intro as vs h
    induction h with
    | nil => intro i v e; simp at e
    | cons a b ih =>
      intro i v e
      cases i with
      | zero => simp at e; subst e; exact ⟨_, rfl, a⟩
      | succ i => simpa using ih i v (by simpa using e)
  rcases Nat.lt_or_ge i as.length with hi | hi
  · rw [List.getElem?_append_left (by simpa using hi), List.getElem?_map] at e
    obtain ⟨u, hu, eu⟩ := Option.map_eq_some_iff.mp e
    cases eu
    obtain ⟨x, hx, r⟩ := get h i v hu
    exact ⟨x, by rw [List.getElem?_append_left (by simp; omega), List.getElem?_map, hx]; rfl, r⟩
  · rw [List.getElem?_append_right (by simpa using hi)] at e
    exfalso
    rw [List.getElem?_replicate] at e
    split at e <;> cases e
theorem run_len {G : List Fn} {fu n f : Nat} {F : Fn} {as : List Vl} {S : Sto} (hG : G[f]? = some F) (h : runFn G fu (n + 1) f as S ≠ .er) : as.length = F.np := by
  by_cases hl : as.length = F.np
  · exact hl
  · exfalso
    apply h
    show (match G[f]? with | none => Re.er | some F => if decide (as.length = F.np) then runBd (runFn G fu n) fu F as S else .er) = _
    rw [hG]
    simp only [decide_eq_false hl, Bool.false_eq_true, if_false]
theorem OutG.ne {α β : Type} {R : Mem P w T → α → β → Prop} {W : WX} {σ : St} {m : Mem P w T} {r : Re α} {Q : β → Hp → Prop} (h : OutG R W σ m r Q) : r ≠ .er := fun z => by subst z; exact h
theorem fnE_len {G : List Fn} {fu n f : Nat} {F : Fn} (hG : G[f]? = some F) {ps : List Str} (hps : ps.length = F.np) : ∀ vs H Q E, spI P w K T (runFn G fu (n + 1)) f vs H Q E → vs.length = ps.length := fun vs H Q E ⟨m, as, _, hv, o⟩ => by
  rw [hps, ← hv.length]
  exact run_len hG o.ne
/-- a def of the program, by its body -/
theorem fnOk_code {G : List Fn} {fu n f np ns : Nat} {ss : List Sm} {keep : Bool} {x qual : Str} {params : Arguments} {body : List Stmt} {scope : Scope} {kws : List (Str × V)} {ad : Addr} {fd : FuncData} {N ps : List Str}
    (hG : G[f]? = some ⟨np, ns, .code ss, keep⟩) (F : FunD K x qual params body scope [] kws ad fd) (sc : FnScope N ps scope) (hps : ps.length = np) (hN : N.length = ns)
    (hB : ∀ (cdv : Value) (A : Around) (outer : List Env) (s : Shared) (H : Hp) (E : XK), Room (2 * n + 3) (A.deeper (envOfC qual scope s.heap.objs.size ad cdv)) →
      SSs (cxOf (L2.CX P w) P w K mg base N qual scope ad cdv A outer s H E) T (runFn G fu n) (fun c d _ H => E c d H) fu body ss) :
    FnOk P w K mg base (L2.CX P w) (2 * (n + 1) + 2) ad fd ps (spI P w K T (runFn G fu (n + 1)) f) := by
  refine F.ok (k := 2 * n + 3) sc (fnE_len hG hps) fun cdv A outer s H vs Q E hr h => ?_
  refine ⟨_, hB cdv A outer s H E hr, ?_⟩
  obtain ⟨m, as, rfl, hv, o⟩ := h
  have hl : as.length = np := run_len hG o.ne
  have e1 : runFn G fu (n + 1) f as m.S = endFn keep m.S.length (execSs (runFn G fu n) fu ss (as.map some ++ List.replicate (ns - np) none) m.S) := by
    exact runFn_eq hG hl
  rw [e1] at o
  refine ⟨as.map some ++ List.replicate (ns - np) none, m, rfl, ?_, ?_⟩
  · have : L2.start N vs = vs.map some ++ List.replicate (ns - np) none := by
      unfold L2.start
      rw [← hv.length, hl, hN]
    show EnvR K m _ (L2.start N vs)
    rw [this]
    exact envR_start hv _
  · show OutS K (fun c d _ H => E c d H) { nx := fun _ H' => Q .non H', rt := Q } m (execSs (runFn G fu n) fu ss (as.map some ++ List.replicate (ns - np) none) m.S)
    cases hr : execSs (runFn G fu n) fu ss (as.map some ++ List.replicate (ns - np) none) m.S with
    | nx env S =>
      rw [hr] at o
      intro σ m' f' e' er
      cases keep with
      | true => exact o .non m' f' e' .non
      | false => exact o .non (m'.cut m.S.length) (Mem.cut_fut f' (Nat.le_refl _)) (by show m'.S.take _ = _; rw [e']; rfl) .non
    | bk env S => rw [hr] at o; exact o.elim
    | ct env S => rw [hr] at o; exact o.elim
    | rt v S =>
      rw [hr] at o
      intro y m' f' e' hy
      cases keep with
      | true => exact o y m' f' e' hy
      | false =>
        cases v with
        | d z => exact o y (m'.cut m.S.length) (Mem.cut_fut f' (Nat.le_refl _)) (by show m'.S.take _ = _; rw [e']) (Dr.mono (m'.cut_keep _) _ _ hy)
        | r k => exact o.elim
        | s k => exact o.elim
        | x k j => exact o.elim
    | ex c fs env S =>
      rw [hr] at o
      intro d σ m' f' e' er x3
      refine o d (m'.cut m.S.length) (Mem.cut_fut f' (Nat.le_refl _)) (by show m'.S.take _ = _; rw [e']) ?_
      rcases x3 with ⟨a1, a2⟩ | ⟨a', gs, a1, a2, a3, a4, a5⟩
      · exact .inl ⟨a1, a2⟩
      · exact .inr ⟨a', gs, a1, a2, (m'.cut_keep _ a' _ a2 a3).2, a4, DrAll.mono (m'.cut_keep _) _ _ a5⟩
    | er => rw [hr] at o; exact o.elim
theorem fnE_code {G : List Fn} {fu n f np ns : Nat} {ss : List Sm} {keep : Bool} {x qual : Str} {params : Arguments} {body : List Stmt} {scope : Scope} {kws : List (Str × V)} {ad : Addr} {fd : FuncData} {N ps : List Str}
    (hG : G[f]? = some ⟨np, ns, .code ss, keep⟩) (F : FunD K x qual params body scope [] kws ad fd) (sc : FnScope N ps scope) (hps : ps.length = np) (hN : N.length = ns) (bn : Binds K fd ps [])
    (hB : ∀ (cdv : Value) (A : Around) (outer : List Env) (s : Shared) (H : Hp) (E : XK), Room (2 * n + 3) (A.deeper (envOfC qual scope s.heap.objs.size ad cdv)) →
      SSs (cxOf (L2.CX P w) P w K mg base N qual scope ad cdv A outer s H E) T (runFn G fu n) (fun c d _ H => E c d H) fu body ss) :
    FnE P w K mg base T (runFn G fu (n + 1)) (2 * (n + 1) + 2) f ad := ⟨⟨fd, ps, fnOk_code hG F sc hps hN hB, bn⟩, F.kp⟩
/-! ### the source of draws -/
abbrev rAdd : R2 := rI0 fun i j => .int (i + j)
abbrev rMul : R2 := rI CMul fun i j => .int (i * j)
abbrev rMod : R2 := rI (fun _ j => 0 < j) fun i j => .int (i % j)
abbrev rDiv : R2 := rI CDivW fun i j => .int (i / j)
abbrev rPow : R2 := rI CPow fun i j => .int (i ^ j.toNat)
abbrev rGe : R2 := rI0 fun i j => .bl (decide (j ≤ i))
abbrev rInt1 : List V → Hp → VK → Prop := fun xs H Q => (∃ i, xs = [.int i] ∧ Q (.int i) H) ∨ ∃ k, xs = [.bl k] ∧ Q (.int (if k then 1 else 0)) H
abbrev rMx : List V → Hp → VK → Prop := fun xs H Q => ∃ i j, xs = [.int i, .int j] ∧ Q (.int (if j > i then j else i)) H
abbrev rLs (K : PySem.W.Frag) : List V → Hp → VK → Prop := fun xs H Q => ∃ p ys, xs = [.ref p] ∧ (SqL K H p ys ∨ SqT K H p ys) ∧ ∀ l, H l = none → Q (.ref l) (upd H l (.lst ys))
abbrev rLn (K : PySem.W.Frag) : List V → Hp → VK → Prop := fun xs H Q => ∃ p ys, xs = [.ref p] ∧ (SqL K H p ys ∨ SqT K H p ys) ∧ Q (.int ys.length) H
abbrev tI1 (t : TE) : TE := tCB rInt1 (tCons t tNil)
def t_mix (K : PySem.W.Frag) : TS := tSeq (tAsg (tVar 1) (gName 2))
  (tSeq (tFor (iList K (tVar 0)) (gName 3) (tAsg (tOp rMod (tI1 (tOp rAdd (tOp rAdd (tOp rMul (tVar 2) (tC (.int 48271))) (tOp rMod (tI1 (tVar 3)) (tC (.int 2147483629)))) (tC (.int 1)))) (tC (.int 2147483647))) (gName 2)))
    (tRet (tLst (tCons (tVar 2) (tCons (tCB (rLs K) (tCons (tVar 0) tNil)) (tCons (tC (.int 0)) tNil))))))
theorem mixSt_snoc (k : Int) (ns : List Int) (i : Nat) (x : Int) (h : ns[i]? = some x) : mixSt k (ns.take (i + 1)) = (mixSt k (ns.take i) * 48271 + x % 2147483629 + 1) % 2147483647 := by
  unfold mixSt
  rw [List.take_add_one, h, List.foldl_append]
  rfl
theorem VR.s_sq {m : Mem P w T} {ns : List Int} {v : V} (h : VR K m (.s ns) v) : ∃ a, v = .ref a ∧ SqL K m.H a (ns.map V.int) := by
  obtain ⟨a, rfl, h⟩ := h
  rcases h with ⟨o, h, _⟩ | ⟨o, its, n, h⟩
  · exact ⟨a, rfl, .inl (.inr ⟨o, h⟩)⟩
  · exact ⟨a, rfl, .inr ⟨o, its, n, h⟩⟩
theorem pure_mix {G : List Fn} {fu n f : Nat} {keep : Bool} {N : List Str} (hN : N.length = 4) (hG : G[f]? = some ⟨2, 4, .mix, keep⟩) (vs : List V) (H : Hp) (Q : VK) (E : XK) (h : spI P w K T (runFn G fu (n + 1)) f vs H Q E) :
    t_mix K { nx := fun _ H' => Q .non H', rt := Q } (L2.start N vs) H := by
  obtain ⟨m, as, rfl, hv, o⟩ := h
  have hl : as.length = 2 := run_len hG o.ne
  rw [runFn_eq hG hl] at o
  replace o : OutG (VR K) (fun c d _ H => E c d H) [] m (mixFn as m.S) Q := o
  unfold mixFn at o
  split at o
  · rename_i ns k
    split at o
    · rename_i hns
      have hns : ns.length ≤ 1000 := Nat.le_of_ble_eq_true hns
      cases hv with
      | cons v1 hv => cases hv with
        | cons v2 hv =>
          cases hv
          obtain ⟨a, rfl, sq⟩ := VR.s_sq v1
          cases Dr.int_inv v2
          have hst : L2.start N [V.ref a, V.int k] = [some (.ref a), some (.int k), none, none] := by
            unfold L2.start
            rw [hN]
            rfl
          rw [hst]
          refine ⟨_, rfl, _, rfl, a, rfl, ⟨_, sq⟩, for_list (xs := ns.map V.int) (fun i σ H => H = m.H ∧ ∃ c, σ = [some (.ref a), some (.int k), some (.int (mixSt k (ns.take i))), c]) ⟨rfl, none, rfl⟩ ?_ ?_ ?_⟩
          · rintro i σ H _ ⟨rfl, _⟩
            exact sq
          · rintro i x σ H hx ⟨rfl, c, rfl⟩
            rw [List.getElem?_map] at hx
            obtain ⟨z, hz, rfl⟩ := Option.map_eq_some_iff.mp hx
            refine ⟨_, rfl, _, _, rfl, rfl, Or.inr ⟨by omega, by omega⟩, _, rfl, Or.inl ⟨_, rfl, _, _, rfl, rfl, by omega, _, _, rfl, rfl, _, _, rfl, rfl, Or.inl ⟨_, rfl, _, _, rfl, rfl, by omega, rfl, some (.int z), ?_⟩⟩⟩
            rw [mixSt_snoc k ns i z hz]
            rfl
          · rintro σ H ⟨rfl, c, rfl⟩
            rw [List.length_map, List.take_length]
            refine ⟨_, rfl, _, rfl, a, _, rfl, Or.inl sq, fun l hl => ?_⟩
            refine ⟨by show 3 ≤ sizeLine; decide, fun p hp => ?_⟩
            have hpl : p ≠ l := fun z => by subst z; rw [upd_same] at hp; cases hp
            have hp0 : m.H p = none := by rwa [upd_ne hpl] at hp
            have kk : ∀ z u, m.H z = some u → upd (upd m.H l (.lst (ns.map V.int))) p (.lst [.int (mixSt k ns), .ref l, .int 0]) z = some u := fun z u e => by
              rw [upd_ne (ne_of_none e hp0), upd_ne (ne_of_none e hl)]; exact e
            have ta : (upd (upd m.H l (.lst (ns.map V.int))) p (.lst [.int (mixSt k ns), .ref l, .int 0]) p).isSome = true := by rw [upd_same]; rfl
            have tb : (upd (upd m.H l (.lst (ns.map V.int))) p (.lst [.int (mixSt k ns), .ref l, .int 0]) l).isSome = true := by rw [upd_ne (Ne.symm hpl), upd_same]; rfl
            have ob : ∀ M : Addr → Prop, (∀ x u, m.H x = some u → ¬ m.M x → ¬ M x) → ObR P w T M (upd (upd m.H l (.lst (ns.map V.int))) p (.lst [.int (mixSt k ns), .ref l, .int 0])) p l (.src (mixSt k ns) ns 0) := fun M _ =>
              ⟨upd_same, by rw [upd_ne (Ne.symm hpl), upd_same], hpl, hns⟩
            refine o (.ref p) (m.push (.src (mixSt k ns) ns 0) p l _ hp0 hl kk ta tb rfl ob) (m.push_fut hp0 hl kk ta tb rfl ob) rfl ⟨(p, l), ?_, rfl⟩
            show (m.φ ++ [(p, l)])[m.S.length]? = some (p, l)
            rw [← m.len, List.getElem?_append_right (Nat.le_refl _), Nat.sub_self]
            rfl
    · exact o.elim
  · exact o.elim
abbrev tIx (K : PySem.W.Frag) (i : Int) : TE := tOp (rIxL K) (tVar 0) (tC (.int i))
def t_next (K : PySem.W.Frag) : TS := tSeq (tAsg (tOp (rIxL K) (tOp rCat (tIx K 1) (tLst (tCons (tC (.int 0)) tNil))) (tOp rMod (tI1 (tIx K 2)) (tCB rMx (tCons (tC (.int 1)) (tCons (tCB (rLn K) (tCons (tIx K 1) tNil)) tNil))))) (gName 2))
  (tSeq (tIfS (tTest (tOp rGe (tVar 2) (tOp rPow (tC (.int 10)) (tC (.int 18)))))
      (tSeq (tAsg (tIx K 1) (gName 3)) (tSeq (tAsg (tOp rDiv (tVar 2) (tVar 1)) (gSub (tVar 3) (tOp rMod (tI1 (tIx K 2)) (tCB (rLn K) (tCons (tVar 3) tNil))) rSetL)) (tRet (tOp rMod (tI1 (tVar 2)) (tVar 1))))) tNext)
    (tSeq (tAsg (tOp rMod (tI1 (tOp rAdd (tOp rAdd (tOp rMul (tIx K 0) (tC (.int 48271))) (tOp rMul (tVar 2) (tC (.int 69621)))) (tC (.int 11)))) (tC (.int 2147483647))) (gSub (tVar 0) (tC (.int 0)) rSetL))
      (tSeq (tAsg (tOp rAdd (tIx K 2) (tC (.int 1))) (gSub (tVar 0) (tC (.int 2)) rSetL)) (tRet (tOp rMod (tI1 (tOp rDiv (tIx K 0) (tC (.int 7)))) (tVar 1))))))
theorem mx_eq (n : Nat) : (if (n : Int) > 1 then (n : Int) else 1) = max 1 (n : Int) := by split <;> omega
theorem cell_at (cs : List Int) (ix : Int) : atI (cs.map V.int ++ [V.int 0]) (ix % max 1 (cs.length : Int)) = some (.int ((cs ++ [0]).getD (ix % max 1 (cs.length : Int)).toNat 0)) := by
  have h1 : 0 < max 1 (cs.length : Int) := by omega
  have h2 := Int.emod_nonneg ix (Int.ne_of_gt h1)
  have h3 := Int.emod_lt_of_pos ix h1
  generalize hi : ix % max 1 (cs.length : Int) = i at h2 h3
  obtain ⟨j, rfl⟩ := Int.eq_ofNat_of_zero_le h2
  have hj : j < cs.length + 1 := by omega
  have e : (cs.map V.int ++ [V.int 0])[j]? = some (.int ((cs ++ [0]).getD j 0)) := by
    have : (cs.map V.int ++ [V.int 0]) = (cs ++ [0]).map V.int := by rw [List.map_append]; rfl
    rw [this, List.getElem?_map, List.getD_eq_getElem?_getD]
    have hl : j < (cs ++ [0]).length := by simp; omega
    rw [List.getElem?_eq_getElem hl]
    rfl
  exact atI_nat e
theorem pure_next {G : List Fn} {fu n f : Nat} {keep : Bool} {N : List Str} (hN : N.length = 4) (hG : G[f]? = some ⟨2, 4, .next, keep⟩) (vs : List V) (H : Hp) (Q : VK) (E : XK) (h : spI P w K T (runFn G fu (n + 1)) f vs H Q E) :
    t_next K { nx := fun _ H' => Q .non H', rt := Q } (L2.start N vs) H := by
  obtain ⟨m, as, rfl, hv, o⟩ := h
  have hl : as.length = 2 := run_len hG o.ne
  rw [runFn_eq hG hl] at o
  replace o : OutG (VR K) (fun c d _ H => E c d H) [] m (nextFn as m.S) Q := o
  unfold nextFn at o
  split at o
  · rename_i i b
    split at o
    · rename_i st cs ix hS
      split at o
      · rename_i hb
        have hbW : CDivW 0 b := divOk_W hb
        have hb := divOk_iff.mp hb
        cases hv with
        | cons v1 hv => cases hv with
          | cons v2 hv =>
            cases hv
            obtain ⟨⟨a, c⟩, hp, rfl⟩ := v1
            cases Dr.int_inv v2
            obtain ⟨h1, h2, hne, hcs⟩ := m.obj i (a, c) _ hp hS
            have h1 : m.H a = some (.lst [.int st, .ref c, .int ix]) := h1
            have h2 : m.H c = some (.lst (cs.map V.int)) := h2
            have hne : a ≠ c := hne
            have hst : L2.start N [V.ref a, V.int b] = [some (.ref a), some (.int b), none, none] := by
              unfold L2.start
              rw [hN]
              rfl
            rw [hst]
            have q1 : SqL K m.H a [.int st, .ref c, .int ix] := SqL.of h1
            refine ⟨_, rfl, a, _, 1, .ref c, rfl, rfl, q1, rfl, ?_⟩
            refine ⟨by show 1 ≤ sizeLine; decide, fun z hz => ?_⟩
            have za : a ≠ z := ne_of_none h1 hz
            have zc : c ≠ z := ne_of_none h2 hz
            refine ⟨c, z, _, _, rfl, rfl, by rw [upd_ne zc]; exact h2, upd_same, ?_, fun y hy => ?_⟩
            · rw [List.length_map]
              show cs.length + 1 ≤ sizeLine
              have : (1001 : Nat) ≤ sizeLine := by decide
              omega
            have hyz : y ≠ z := fun e => by subst e; rw [upd_same] at hy; cases hy
            have hy0 : m.H y = none := by rwa [upd_ne hyz] at hy
            have ya : a ≠ y := ne_of_none h1 hy0
            have yc : c ≠ y := ne_of_none h2 hy0
            -- the heap behind the two new lists
            generalize hH : upd (upd m.H z (.lst [.int 0])) y (.lst (cs.map V.int ++ [.int 0])) = H1
            have g1 : H1 a = some (.lst [.int st, .ref c, .int ix]) := by rw [← hH, upd_ne ya, upd_ne za]; exact h1
            have g2 : H1 c = some (.lst (cs.map V.int)) := by rw [← hH, upd_ne yc, upd_ne zc]; exact h2
            have gy : H1 y = some (.lst (cs.map V.int ++ [.int 0])) := by rw [← hH, upd_same]
            have gk : ∀ u o, m.H u = some o → H1 u = some o := fun u o e => by rw [← hH, upd_ne (ne_of_none e hy0), upd_ne (ne_of_none e hz)]; exact e
            let m1 : Mem P w T := m.grow H1 gk
            have f1 : Fut m m1 := m.grow_fut gk
            have hp1 : m1.φ[i]? = some (a, c) := hp
            have hS1 : m1.S[i]? = some (.src st cs ix) := hS
            refine ⟨_, rfl, a, _, 2, .int ix, rfl, rfl, SqL.of g1, rfl, Or.inl ⟨ix, rfl, ?_⟩⟩
            refine ⟨_, rfl, a, _, 1, .ref c, rfl, rfl, SqL.of g1, rfl, c, _, rfl, Or.inl (SqL.of g2), ?_⟩
            rw [List.length_map]
            refine ⟨1, (cs.length : Int), rfl, ?_⟩
            rw [mx_eq]
            refine ⟨ix, max 1 (cs.length : Int), rfl, rfl, by omega, ?_⟩
            refine ⟨y, _, _, _, rfl, rfl, SqL.of gy, cell_at cs ix, ?_⟩
            generalize hcell : (cs ++ [0]).getD (ix % max 1 (cs.length : Int)).toNat 0 = cell
            refine ⟨_, rfl, _, _, rfl, rfl, ⟨by decide, by decide, by decide⟩, cell, 1000000000000000000, rfl, rfl, decide ((1000000000000000000 : Int) ≤ cell), rfl, ?_⟩
            have hmod : ∀ (hb : 0 < b), True := fun _ => trivial
            by_cases hge : (1000000000000000000 : Int) ≤ cell
            · rw [decide_eq_true hge]
              have hdr : draw b st cs ix = (cell % b, .src st (cs.set (ix % (cs.length : Int)).toNat (cell / b)) ix) := by
                unfold draw
                simp only [hcell]
                rw [if_pos hge]
              rw [hdr] at o
              have hpos : 0 < cs.length := by
                cases cs with
                | nil =>
                  exfalso
                  have : cell = 0 := by rw [← hcell]; show ([0] : List Int).getD _ 0 = 0; cases (ix % max 1 (([] : List Int).length : Int)).toNat <;> rfl
                  omega
                | cons _ _ => simp
              have hp2 := Int.emod_nonneg ix (show (cs.length : Int) ≠ 0 by omega)
              have hp3 := Int.emod_lt_of_pos ix (show (0 : Int) < (cs.length : Int) by omega)
              refine iteT ?_
              refine ⟨_, rfl, a, _, 1, .ref c, rfl, rfl, SqL.of g1, rfl, ?_⟩
              refine ⟨_, rfl, _, rfl, cell, b, rfl, rfl, hbW, ?_⟩
              refine ⟨_, rfl, _, rfl, a, _, 2, .int ix, rfl, rfl, SqL.of g1, rfl, Or.inl ⟨ix, rfl, ?_⟩⟩
              refine ⟨_, rfl, c, _, rfl, Or.inl (SqL.of g2), ?_⟩
              rw [List.length_map]
              refine ⟨ix, (cs.length : Int), rfl, rfl, by omega, ?_⟩
              obtain ⟨j, hj⟩ := Int.eq_ofNat_of_zero_le hp2
              have hjl : j < cs.length := by omega
              have hix : ixN (cs.map V.int).length (ix % (cs.length : Int)) = some j := by
                rw [hj, List.length_map]
                unfold ixN
                rw [if_pos (Int.natCast_nonneg j)]
                simp [hjl]
              refine ⟨c, _, _, j, rfl, rfl, g2, hix, ?_⟩
              refine ⟨_, rfl, Or.inl ⟨cell, rfl, _, rfl, cell, b, rfl, rfl, hb.1, ?_⟩⟩
              have hset : (cs.map V.int).set j (V.int (cell / b)) = (cs.set j (cell / b)).map V.int := by rw [List.map_set]
              rw [hset]
              have k : ∀ u, u ≠ (a, c).1 → u ≠ (a, c).2 → upd H1 c (.lst ((cs.set j (cell / b)).map V.int)) u = m1.H u := fun u _ hu => upd_ne hu
              have ta : (upd H1 c (.lst ((cs.set j (cell / b)).map V.int)) a).isSome = true := by rw [upd_ne hne, g1]; rfl
              have tb : (upd H1 c (.lst ((cs.set j (cell / b)).map V.int)) c).isSome = true := by rw [upd_same]; rfl
              have ob : ∀ M : Addr → Prop, ObR P w T M (upd H1 c (.lst ((cs.set j (cell / b)).map V.int))) a c (.src st (cs.set j (cell / b)) ix) := fun M =>
                ⟨by rw [upd_ne hne]; exact g1, upd_same, hne, by rw [List.length_set]; exact hcs⟩
              have hjt : (ix % (cs.length : Int)).toNat = j := by rw [hj]; rfl
              rw [hjt] at o
              exact o (.int (cell % b)) (m1.put i (a, c) (.src st cs ix) (.src st (cs.set j (cell / b)) ix) _ hp1 hS1 rfl k ta tb (ob _)) (f1.trans (m1.put_fut hp1 hS1 rfl k ta tb (ob _))) rfl (.int _)
            · rw [decide_eq_false hge]
              have hdr : draw b st cs ix = ((st * 48271 + cell * 69621 + 11) % 2147483647 / 7 % b, .src ((st * 48271 + cell * 69621 + 11) % 2147483647) cs (ix + 1)) := by
                unfold draw
                simp only [hcell]
                rw [if_neg hge]
              rw [hdr] at o
              refine iteF ?_
              refine ⟨_, rfl, a, _, 0, .int st, rfl, rfl, SqL.of g1, rfl, st, 48271, rfl, rfl, Or.inr ⟨by omega, by omega⟩, ?_⟩
              refine ⟨_, rfl, cell, 69621, rfl, rfl, Or.inr ⟨by omega, by omega⟩, _, _, rfl, rfl, _, _, rfl, rfl, Or.inl ⟨_, rfl, _, _, rfl, rfl, by omega, ?_⟩⟩
              refine ⟨_, rfl, a, _, 0, 0, rfl, rfl, g1, rfl, ?_⟩
              dsimp only
              generalize hst' : (st * 48271 + cell * 69621 + 11) % 2147483647 = st' at o ⊢
              have n1 : upd H1 a (.lst ([V.int st, V.ref c, V.int ix].set 0 (.int st'))) a = some (.lst [.int st', .ref c, .int ix]) := upd_same
              refine ⟨_, rfl, a, _, 2, .int ix, rfl, rfl, SqL.of n1, rfl, ix, 1, rfl, rfl, ?_⟩
              refine ⟨_, rfl, a, _, 2, 2, rfl, rfl, n1, rfl, ?_⟩
              have n2 : upd (upd H1 a (.lst ([V.int st, V.ref c, V.int ix].set 0 (.int st')))) a (.lst ([V.int st', V.ref c, V.int ix].set 2 (.int (ix + 1)))) a = some (.lst [.int st', .ref c, .int (ix + 1)]) := upd_same
              refine ⟨_, rfl, a, _, 0, .int st', rfl, rfl, SqL.of n2, rfl, st', 7, rfl, rfl, ⟨by omega, by decide⟩, Or.inl ⟨_, rfl, _, rfl, _, b, rfl, rfl, hb.1, ?_⟩⟩
              rw [upd_upd]
              have k : ∀ u, u ≠ (a, c).1 → u ≠ (a, c).2 → upd H1 a (.lst ([V.int st', V.ref c, V.int ix].set 2 (.int (ix + 1)))) u = m1.H u := fun u hu _ => upd_ne hu
              have ta : (upd H1 a (.lst ([V.int st', V.ref c, V.int ix].set 2 (.int (ix + 1)))) a).isSome = true := by rw [upd_same]; rfl
              have tb : (upd H1 a (.lst ([V.int st', V.ref c, V.int ix].set 2 (.int (ix + 1)))) c).isSome = true := by rw [upd_ne (Ne.symm hne), g2]; rfl
              have ob : ∀ M : Addr → Prop, ObR P w T M (upd H1 a (.lst ([V.int st', V.ref c, V.int ix].set 2 (.int (ix + 1))))) a c (.src st' cs (ix + 1)) := fun M =>
                ⟨upd_same, by rw [upd_ne (Ne.symm hne)]; exact g2, hne, hcs⟩
              exact o (.int (st' / 7 % b)) (m1.put i (a, c) (.src st cs ix) (.src st' cs (ix + 1)) _ hp1 hS1 rfl k ta tb (ob _)) (f1.trans (m1.put_fut hp1 hS1 rfl k ta tb (ob _))) rfl (.int _)
      · exact o.elim
    · exact o.elim
  · exact o.elim
/-- a def that is told by its reading -/
theorem fnE_read {G : List Fn} {fu n f np : Nat} {bd : Bd} {ns : Nat} {keep : Bool} {x qual : Str} {params : Arguments} {body : List Stmt} {scope : Scope} {kws : List (Str × V)} {ad : Addr} {fd : FuncData} {N ps : List Str} {t : TS}
    (hG : G[f]? = some ⟨np, ns, bd, keep⟩) (F : FunD K x qual params body scope [] kws ad fd) (sc : FnScope N ps scope) (hps : ps.length = np) (bn : Binds K fd ps [])
    (hp : ∀ vs H Q E, spI P w K T (runFn G fu (n + 1)) f vs H Q E → t { nx := fun _ H' => Q .non H', rt := Q } (L2.start N vs) H)
    (hB : ∀ (cdv : Value) (A : Around) (outer : List Env) (s : Shared) (H : Hp) (E : XK), Room (2 * n + 3) (A.deeper (envOfC qual scope s.heap.objs.size ad cdv)) →
      PSs (cxOf (L2.CX P w) P w K mg base N qual scope ad cdv A outer s H E) body t) :
    FnE P w K mg base T (runFn G fu (n + 1)) (2 * (n + 1) + 2) f ad :=
  ⟨⟨fd, ps, F.ok (k := 2 * n + 3) sc (fnE_len hG hps) fun cdv A outer s H vs Q E hr h => ⟨t, hB cdv A outer s H E hr, hp vs H Q E h⟩, bn⟩, F.kp⟩
end
end Itp

set_option Elab.async false
set_option linter.all false
set_option autoImplicit false
set_option maxRecDepth 100000
set_option maxHeartbeats 4000000
/-! The head: facts of the written part, and the law's end. -/
namespace Itp
open PySem L2
/-! ### facts by Bools -/
def pAd (K : PySem.W.Frag) (C : Addr) (f : Str) : Addr := match PySem.W.findIn K (.ref C) f with
  | some (some (.ref p)) => p
  | _ => 0
def getOf (K : PySem.W.Frag) (p : Addr) : Addr := match PySem.W.recIn K p "property" with
  | some (.ref g :: _) => g
  | _ => 0
/-- the getter of a property -/
def gAd (K : PySem.W.Frag) (C : Addr) (f : Str) : Addr := getOf K (pAd K C f)
def propB (K : PySem.W.Frag) (C : Addr) (f : Str) : Bool := He.eqO (PySem.W.findIn K (.ref C) f) (some (some (.ref (pAd K C f)))) && (He.eqO (PySem.W.specialIn K (.ref (pAd K C f)) "__get__") (some (some (.builtin "property.__get__"))) &&
  (decide (PySem.W.takesIn K (.ref (pAd K C f)) = some true) && (match PySem.W.recIn K (pAd K C f) "property" with
    | some (.ref g :: _) => decide (g = gAd K C f)
    | _ => false)))
theorem prop_ok {K : PySem.W.Frag} {C : Addr} {f : Str} (h : propB K C f = true) : PropOf K C f (pAd K C f) (gAd K C f) := by
  unfold propB at h
  obtain ⟨h1, h⟩ := He.ba h
  obtain ⟨h2, h⟩ := He.ba h
  obtain ⟨h3, h⟩ := He.ba h
  refine ⟨He.eqO_ok h1, He.eqO_ok h2, of_decide_eq_true h3, ?_⟩
  split at h
  · rename_i g r e
    have : g = gAd K C f := of_decide_eq_true h
    subst this
    exact ⟨r, e⟩
  · cases h
def eqB (K : PySem.W.Frag) (C : Addr) : Bool := He.eqO (PySem.W.findIn K (.ref C) "__eq__") (some (some (.ref (He.ma K C "__eq__")))) && PySem.W.isFn K (.ref (He.ma K C "__eq__"))
theorem eq_ok {K : PySem.W.Frag} {C : Addr} (h : eqB K C = true) : PySem.W.findIn K (.ref C) "__eq__" = some (some (.ref (He.ma K C "__eq__"))) ∧ PySem.W.isFn K (.ref (He.ma K C "__eq__")) = true := ⟨He.eqO_ok (He.ba h).1, (He.ba h).2⟩
def clsB (K : PySem.W.Frag) (C : Addr) : Bool := He.eqO (PySem.W.findIn K (.ref C) "__class__") (some (some (.builtin "object.__class__"))) && (He.eqO (PySem.W.specialIn K (.builtin "object.__class__") "__get__") (some (some (.builtin "getset_descriptor.__get__"))) &&
  (decide (PySem.W.takesIn K (.builtin "object.__class__") = some true) && (decide (PySem.W.mroIn K C (.type "object") = some true) &&
  ((["NoneType", "bool", "int", "str", "list", "tuple"].all fun t => decide (PySem.W.kitOne K (.type t) (.ref C) = some false)) && (["bool", "int", "str", "list", "tuple"].all fun t => decide (PySem.W.kitOne K (.ref C) (.type t) = some false))))))
theorem cls_okF {K : PySem.W.Frag} {C : Addr} (c : Cls K C) (h : clsB K C = true) : ClsF K C := by
  unfold clsB at h
  obtain ⟨h1, h⟩ := He.ba h
  obtain ⟨h2, h⟩ := He.ba h
  obtain ⟨h3, h⟩ := He.ba h
  obtain ⟨h4, h⟩ := He.ba h
  obtain ⟨h5, h6⟩ := He.ba h
  refine ⟨c, He.eqO_ok h1, He.eqO_ok h2, of_decide_eq_true h3, of_decide_eq_true h4, fun t ht => ?_, fun t ht => ?_⟩
  · exact of_decide_eq_true (List.all_eq_true.mp h5 t ht)
  · exact of_decide_eq_true (List.all_eq_true.mp h6 t ht)
def ctOf (names : List Str) (fields : List (List Str)) (K : PySem.W.Frag) : Ct := ⟨fun c => He.ga K (names.getD c ""), fun c => fields.getD c []⟩
/-! ### the Hook -/
/-- a def: where it stands, what it is -/
structure FnA where
  ad : PySem.W.Frag → Addr
  x : Str
  qual : Str
  st : Stmt
def FnA.val (d : FnA) : He.FnW := some (d.x, d.qual, defArgs d.st, .stmts (defBody d.st), defScope d.st, mainGlobals, [], builtinsNs)
def fnAt (K : PySem.W.Frag) (a : Addr) : He.FnW := match K.lookup a with
  | some ⟨_, _, .func fd, _⟩ => some (fd.name, fd.qualname, fd.params, fd.body, fd.scope, fd.globals, fd.closure, fd.builtins)
  | _ => none
def isNo : Value → Bool
  | .none => true
  | _ => false
def okAt (K : PySem.W.Frag) (a : Addr) (q : Str) : Bool := PySem.W.keepIn K (.ref a) && (match K.lookup a with
  | some ⟨_, _, .func fd, _⟩ => PySem.W.codeIn K fd.code q && isNo fd.defaults
  | _ => false)
theorem funA {K : PySem.W.Frag} {d : FnA} (e : fnAt K (d.ad K) = d.val) (c : okAt K (d.ad K) d.qual = true) : ∃ fd, FunD K d.x d.qual (defArgs d.st) (defBody d.st) (defScope d.st) [] [] (d.ad K) fd := by
  obtain ⟨kp, c2⟩ := He.ba c
  unfold fnAt at e
  cases q : K.lookup (d.ad K) with
  | none => rw [q] at c2; cases c2
  | some o =>
    obtain ⟨oc, od, dt, osl⟩ := o
    rw [q] at c2 e
    cases dt with
    | func fd =>
      obtain ⟨n1, n2, n3, n4, n5, n6, n7, n8, n9, n10, n11, n12, n13, n14, n15⟩ := fd
      have e2 : (some (n1, n2, n3, n4, n5, n6, n7, n15) : He.FnW) = some (d.x, d.qual, defArgs d.st, .stmts (defBody d.st), defScope d.st, mainGlobals, [], builtinsNs) := e
      simp only [Option.some.injEq, Prod.mk.injEq] at e2
      obtain ⟨h1, h2, h3, h4, h5, h6, h7, h8⟩ := e2
      subst h1 h2 h3 h4 h5 h6 h7 h8
      have c3 : (PySem.W.codeIn K n13 d.qual && isNo n8) = true := c2
      obtain ⟨k1, k2⟩ := He.ba c3
      have k3 : n8 = .none := by cases n8 <;> first | rfl | cases k2
      exact ⟨_, ⟨oc, od, n8, n9, n10, n11, n12, n13, n14, osl, rfl, q, k1, .inl ⟨rfl, k3⟩, .inl rfl⟩, kp⟩
    | _ => cases c2
abbrev AlE : Type := Bool × List He.FnW
def obsK (fa : List He.Fa) (fn : List FnA) (ex : PySem.W.Frag → Bool) (K : PySem.W.Frag) : AlE := (ex K && ((fa.all fun f => f.ok K) && fn.all fun d => okAt K (d.ad K) d.qual), fn.map fun d => fnAt K (d.ad K))
def valE (fn : List FnA) : AlE := (true, fn.map FnA.val)
def SaysE (fa : List He.Fa) (fn : List FnA) (ex : PySem.W.Frag → Bool) (K : PySem.W.Frag) : Prop := obsK fa fn ex K = valE fn
/-- growth with the seen ones in a number's bits -/
def newB : List Addr → List Addr → Nat → List Addr × Nat
  | [], acc, m => (acc, m)
  | a :: r, acc, m => bif Nat.beq (Nat.land (Nat.shiftRight m a) 1) 1 then newB r acc m else newB r (a :: acc) (Nat.lor m (Nat.shiftLeft 1 a))
def refsB (g : Addr → Option Obj) (as : List Addr) : List Addr := as.flatMap fun a => match g a with
  | some o => He.refsD o
  | none => []
def goB (g : Addr → Option Obj) : Nat → List Addr → Nat → List Addr
  | 0, as, _ => as
  | n + 1, as, m => match newB (refsB g as) [] m with
    | (bs, m2) => as ++ goB g n bs m2
def asB (g : Addr → Option Obj) (n : Nat) : List Addr := goB g n [mainGlobals] (Nat.shiftLeft 1 mainGlobals)
def obsE (n : Nat) (fa : List He.Fa) (fn : List FnA) (ex : PySem.W.Frag → Bool) (g : Addr → Option Obj) : AlE := obsK fa fn ex (He.frG g (asB g n))
def hookE (n : Nat) (fa : List He.Fa) (fn : List FnA) (ex : PySem.W.Frag → Bool) : PySem.W.Hook where
  α := AlE
  obs := fun s => obsE n fa fn ex s.heap.get?
  val := fun _ => valE fn
  says := fun _ h => ∃ K : PySem.W.Frag, K.In h ∧ SaysE fa fn ex K
  of := fun _ _ e => ⟨_, He.frG_in, e⟩
  keeps := fun _ _ _ ⟨K, hK, c⟩ k => ⟨K, PySem.W.Frag.In.keeps hK k, c⟩
theorem obsE_eq {n : Nat} {fa : List He.Fa} {fn : List FnA} {ex : PySem.W.Frag → Bool} {g : Addr → Option Obj} {s : Shared} (h : ∀ a, g a = s.heap.get? a) : obsE n fa fn ex g = (hookE n fa fn ex).obs s := by
  have : g = s.heap.get? := funext h
  rw [this]
  rfl
section
variable {fa : List He.Fa} {fn : List FnA} {ex : PySem.W.Frag → Bool} {K : PySem.W.Frag}
theorem SaysE.fst (c : SaysE fa fn ex K) : ex K = true ∧ (fa.all fun f => f.ok K) = true ∧ (fn.all fun d => okAt K (d.ad K) d.qual) = true := by
  have h : (ex K && ((fa.all fun f => f.ok K) && fn.all fun d => okAt K (d.ad K) d.qual)) = true := congrArg (fun z : AlE => z.1) c
  obtain ⟨h1, h⟩ := He.ba h
  obtain ⟨h2, h3⟩ := He.ba h
  exact ⟨h1, h2, h3⟩
theorem SaysE.fact (c : SaysE fa fn ex K) (i : Nat) {f : He.Fa} (h : fa[i]? = some f := by rfl) : f.ok K = true := List.all_eq_true.mp c.fst.2.1 f (List.mem_of_getElem? h)
theorem SaysE.def_ (c : SaysE fa fn ex K) (i : Nat) {d : FnA} (h : fn[i]? = some d := by rfl) : ∃ fd, FunD K d.x d.qual (defArgs d.st) (defBody d.st) (defScope d.st) [] [] (d.ad K) fd := by
  have e : fn.map (fun d => fnAt K (d.ad K)) = fn.map FnA.val := congrArg (fun z : AlE => z.2) c
  have e2 : (fn.map fun d => fnAt K (d.ad K))[i]? = (fn.map FnA.val)[i]? := by rw [e]
  rw [List.getElem?_map, List.getElem?_map, h] at e2
  exact funA (Option.some.inj e2) (List.all_eq_true.mp c.fst.2.2 d (List.mem_of_getElem? h))
end
/-! ### a def's place -/
def mth (st : Stmt) (j : Nat) : Stmt := match st with
  | .ClassDef _ _ _ b _ _ _ _ _ _ _ => b.getD j (.Pass ⟨0, 0, 0, 0⟩)
  | _ => .Pass ⟨0, 0, 0, 0⟩
theorem room_ok {k : Nat} {A : Around} (r : Room k A) : A.units + 70 < cLine := by have := r.un; omega
theorem fnE_zero {P : Program} {w : World} {K : PySem.W.Frag} {mg : Str → Option Value} {base : Heap} {T : Ct} {G : List Fn} {fu f : Nat} {x qual : Str} {params : Arguments} {body : List Stmt} {scope : Scope} {kws : List (Str × V)} {ad : Addr} {fd : FuncData} {ps : List Str} {k : Nat}
    (F : FunD K x qual params body scope [] kws ad fd) (bn : Binds K fd ps []) : FnE P w K mg base T (runFn G fu 0) k f ad :=
  ⟨⟨fd, ps, ⟨fun _ _ _ _ ⟨_, _, _, _, o⟩ => o.elim, fun _ _ _ _ _ _ _ _ _ _ _ _ _ ⟨_, _, _, _, o⟩ => o.elim⟩, bn⟩, F.kp⟩
/-! ### the law's end -/
theorem cx_no {P : Program} {w : World} {H : Hp} {s : Shared} {e : Value} {s' : Shared} (h : L2.CX P w [] H s (fun _ _ _ => False) e s') : False := by
  obtain ⟨_, _, _, _, _, _, _, _, _, _, _, _, z⟩ := h
  exact z.elim
theorem walk_ofI {l : PySem.W.OpenLaw} {n k : Nat} {q : Program} {loose : List Str} {XP : (Str → Option Value) → Heap → Prop} {YP : World → Heap → Prop} {d : DefRec} {x : Str}
    (hn : l.most = some n) (hn2 : n ≤ sizeLine) (hdf : d.params.defaults = []) (hr : Room k callerA)
    (F : ∀ (w : World) (mg : Str → Option Value) (fa : Addr) (h : Heap), YP w h → h.Ns mainGlobals mg → mg d.name = some (.ref fa) →
      ∃ (K : PySem.W.Frag) (fd : FuncData) (sp : Sp), K.In h ∧ (∀ (s : Shared) (u : Value), BindsTo s fd ⟨[u], []⟩ [(x, u)]) ∧
        (∀ (H : Hp) (a : Addr) (ns : List Int), ns.length ≤ n → Only H → SqL K H a (ns.map V.int) → sp [.ref a] H (fun v _ => v = .bl true) fun _ _ _ => False) ∧
        ∀ base : Heap, K.In base → base.Ns mainGlobals mg → FnOk l.prog w K mg base (L2.CX l.prog w) k fa fd [x] sp) :
    PySem.W.WalkO q loose XP YP l.row.toRowW d [] (fun f vs => PySem.call f vs) := by
  refine Att.attach_call hn hdf fun w s₀ s₁ mg mb fa o pm cd doc a vs ns G Y ho hd hcd hmg hobj hints hlen hg => ?_
  obtain ⟨K, fd, sp, KX, hb, hsp, hF⟩ := F w mg fa _ Y G.T.g hmg
  exact law_call KX G.T.g G.T.b G.T.builtins G.T.nolimit hg hobj hints (Nat.le_trans hlen hn2) hr hF hb (fun H hO hS => hsp H a ns hlen hO hS) fun H e s' => cx_no
/-- the memory at the law's entry -/
def mem0 (P : Program) (w : World) (T : Ct) (H : Hp) : Mem P w T where
  φ := []
  S := []
  H := H
  len := rfl
  apart := fun i j p q _ h => by simp at h
  obj := fun n p o h => by simp at h
  there := fun n p h => by simp at h
theorem law_sp {P : Program} {w : World} {K : PySem.W.Frag} {T : Ct} {C : CallF} {f : Nat} {H : Hp} {a : Addr} {ns : List Int} (hO : Only H) (hS : SqL K H a (ns.map V.int)) (hL : ∃ S, C f [.s ns] [] = .ok (.d (.bool true)) S) :
    spI P w K T C f [.ref a] H (fun v _ => v = .bl true) fun _ _ _ => False := by
  have hv : VR K (mem0 P w T H) (.s ns) (.ref a) := by
    refine ⟨a, rfl, ?_⟩
    rcases hS with (h | ⟨o, h⟩) | h
    · rcases hO a with z | ⟨o, xs, z⟩
      · rw [z] at h; cases h
      · rw [z] at h; cases h
    · refine .inl ⟨o, h, ?_⟩
      rintro ⟨n, p, o, h1, _⟩
      have h1 : ([] : List (Addr × Addr))[n]? = some p := h1
      simp at h1
    · exact .inr h
  refine ⟨mem0 P w T H, [.s ns], rfl, .cons hv .nil, ?_⟩
  obtain ⟨S, hS⟩ := hL
  show OutG (VR K) _ [] _ (C f [.s ns] []) _
  rw [hS]
  intro b m' f' e' hb
  exact Dr.bl_inv hb
end Itp

set_option Elab.async false
set_option linter.all false
set_option autoImplicit false
set_option maxRecDepth 100000
set_option maxHeartbeats 4000000
/-! min, max of one list. -/
namespace Itp
open PySem L2
section
variable {X : Cx} {T : Ct} {C : CallF} {W : WX} {a : Expr} {ia : E} {p pos : Pos}
theorem minD_eq (x : D) : ∀ r : List D, Itp.minD x r = PySem.W.minD x r := by
  intro r
  induction r generalizing x with
  | nil => rfl
  | cons y r ih => exact ih _
theorem maxD_eq (x : D) : ∀ r : List D, Itp.maxD x r = PySem.W.maxD x r := by
  intro r
  induction r generalizing x with
  | nil => rfl
  | cons y r ih => exact ih _
theorem homog_min {xs : List D} (h : homog xs = true) : PySem.W.AlikeAll xs := by
  obtain ⟨al, sh⟩ := homog_alike h
  refine ⟨fun x hx y hy => al x hx y hy, fun x hx e => ?_⟩
  have := (sh x hx).2
  rw [e] at this
  cases this
theorem homog_deep {xs : List D} (h : homog xs = true) : PyData.depthAll xs ≤ 64 := by
  obtain ⟨al, sh⟩ := homog_alike h
  clear h al
  induction xs with
  | nil => exact Nat.zero_le _
  | cons x r ih =>
    rw [PyData.depthAll]
    exact Nat.max_le.mpr ⟨depth_le (sh x List.mem_cons_self).1, ih fun d hd => sh d (List.mem_cons_of_mem _ hd)⟩
open PySem.W PySem.Calls PyProof.Rows in
theorem k_min1 (hc : X.calm = true) (hu : X.A.units + 70 < cLine) : CallR X (.builtin "min") (rB1 X T .min) := by
  intro pins s σ H xs us Q I r h
  obtain ⟨m, as, rfl, vs, o⟩ := h
  obtain ⟨a, x, rfl, va, o⟩ := f1_out vs o
  replace o : OutD m (mnD m.S a) Q := o
  unfold mnD at o
  cases e : asLst m.S a with
  | none => rw [e] at o; exact o.elim
  | some ds =>
    rw [e] at o
    cases ds with
    | nil => exact o.elim
    | cons d0 ds =>
      simp only at o
      split at o
      · rename_i hh
        have al := homog_min hh
        have dp := homog_deep hh
        obtain ⟨_, sh⟩ := homog_alike hh
        obtain ⟨p, xs, rfl, h1, r1⟩ := lst_of va e
        obtain ⟨u, rfl, rx⟩ := vals1 r
        cases rx
        obtain ⟨its, r', pl, hz⟩ := I.list (SqL.of h1)
        have e1 := each_rel r1 r'
        have e2 : EachIs (fun v d => ∃ as, Reads s.heap v d as) its (d0 :: ds) := (each_mem e1).mono fun u d ⟨⟨v, p, q⟩, hm⟩ => Dp.reads I d v u (Dr.dp d v q (SeqAt.canLay_of_shaped (sh d hm).1)) p
        obtain ⟨bs, e3⟩ := each_readsAll (fun d : D => d) e2
        rw [List.map_id'] at e3
        refine min_list_data (I.ok.hd hc) pl.isList (by simpa using e3) al (by omega) fun i v h' tk cs hv hr hk => ?_
        have hv : its[i]? = some v := by simpa using hv
        have key : ∃ d x, RelV x v ∧ Dr X.prog X.w T m.M m.H d x ∧ (d0 :: ds)[i]? = some d ∧ ∃ as, Reads s.heap v d as := by
          clear o hr hk
          have ee := each_mem e1
          revert hv
          have : ∀ (its : List Value) (dd : List D), EachIs (fun (u : Value) (d : D) => (∃ v, RelV v u ∧ Dr X.prog X.w T m.M m.H d v) ∧ d ∈ (d0 :: ds)) its dd → ∀ i : Nat, its[i]? = some v → ∃ d x, RelV x v ∧ Dr X.prog X.w T m.M m.H d x ∧ dd[i]? = some d ∧ ∃ as, Reads s.heap v d as := by
            intro its dd hh
            induction hh with
            | nil => intro i hi; simp at hi
            | cons hd tl ih =>
              intro i hi
              cases i with
              | zero =>
                simp at hi
                subst hi
                obtain ⟨⟨x, p, q⟩, hm⟩ := hd
                exact ⟨_, x, p, q, rfl, Dp.reads I _ x _ (Dr.dp _ x q (SeqAt.canLay_of_shaped (sh _ hm).1)) p⟩
              | succ i => exact ih i (by simpa using hi)
          exact this its (d0 :: ds) ee i
        obtain ⟨d, x, rx, dx, _, cs', rr⟩ := key
        have ed : PySem.W.minD d0 ds = d := (reads_det (fun b o e _ => hk b o e) rr hr).1
        refine ⟨x, m.H, I.kept (t' := tk) hk, rx, o.get ?_⟩
        rw [minD_eq, ed]
        exact dx
      · exact o.elim
theorem s_min1 (hc : X.calm = true) (hu : X.A.units + 70 < cLine) (hg : Gl X "min") (hm : X.mg "min" = none) (ha : SE X T C W a ia) (he : starEach [a] X.env = (false, eval a X.env) :: starEach [] X.env := by rfl) : SE X T C W (.Call (.Name "min" p) [a] [] pos) (.b1 .min ia) := s_callB (k_min1 hc hu) PyProof.Rows.boot_min hg hm ha (he := he)
open PySem.W PySem.Calls PyProof.Rows in
theorem k_max1 (hc : X.calm = true) (hu : X.A.units + 70 < cLine) : CallR X (.builtin "max") (rB1 X T .max) := by
  intro pins s σ H xs us Q I r h
  obtain ⟨m, as, rfl, vs, o⟩ := h
  obtain ⟨a, x, rfl, va, o⟩ := f1_out vs o
  replace o : OutD m (mxD m.S a) Q := o
  unfold mxD at o
  cases e : asLst m.S a with
  | none => rw [e] at o; exact o.elim
  | some ds =>
    rw [e] at o
    cases ds with
    | nil => exact o.elim
    | cons d0 ds =>
      simp only at o
      split at o
      · rename_i hh
        have al := homog_min hh
        have dp := homog_deep hh
        obtain ⟨_, sh⟩ := homog_alike hh
        obtain ⟨p, xs, rfl, h1, r1⟩ := lst_of va e
        obtain ⟨u, rfl, rx⟩ := vals1 r
        cases rx
        obtain ⟨its, r', pl, hz⟩ := I.list (SqL.of h1)
        have e1 := each_rel r1 r'
        have e2 : EachIs (fun v d => ∃ as, Reads s.heap v d as) its (d0 :: ds) := (each_mem e1).mono fun u d ⟨⟨v, p, q⟩, hm⟩ => Dp.reads I d v u (Dr.dp d v q (SeqAt.canLay_of_shaped (sh d hm).1)) p
        obtain ⟨bs, e3⟩ := each_readsAll (fun d : D => d) e2
        rw [List.map_id'] at e3
        refine max_list_data (I.ok.hd hc) pl.isList (by simpa using e3) al (by omega) fun i v h' tk cs hv hr hk => ?_
        have hv : its[i]? = some v := by simpa using hv
        have key : ∃ d x, RelV x v ∧ Dr X.prog X.w T m.M m.H d x ∧ (d0 :: ds)[i]? = some d ∧ ∃ as, Reads s.heap v d as := by
          clear o hr hk
          have ee := each_mem e1
          revert hv
          have : ∀ (its : List Value) (dd : List D), EachIs (fun (u : Value) (d : D) => (∃ v, RelV v u ∧ Dr X.prog X.w T m.M m.H d v) ∧ d ∈ (d0 :: ds)) its dd → ∀ i : Nat, its[i]? = some v → ∃ d x, RelV x v ∧ Dr X.prog X.w T m.M m.H d x ∧ dd[i]? = some d ∧ ∃ as, Reads s.heap v d as := by
            intro its dd hh
            induction hh with
            | nil => intro i hi; simp at hi
            | cons hd tl ih =>
              intro i hi
              cases i with
              | zero =>
                simp at hi
                subst hi
                obtain ⟨⟨x, p, q⟩, hm⟩ := hd
                exact ⟨_, x, p, q, rfl, Dp.reads I _ x _ (Dr.dp _ x q (SeqAt.canLay_of_shaped (sh _ hm).1)) p⟩
              | succ i => exact ih i (by simpa using hi)
          exact this its (d0 :: ds) ee i
        obtain ⟨d, x, rx, dx, _, cs', rr⟩ := key
        have ed : PySem.W.maxD d0 ds = d := (reads_det (fun b o e _ => hk b o e) rr hr).1
        refine ⟨x, m.H, I.kept (t' := tk) hk, rx, o.get ?_⟩
        rw [maxD_eq, ed]
        exact dx
      · exact o.elim
theorem s_max1 (hc : X.calm = true) (hu : X.A.units + 70 < cLine) (hg : Gl X "max") (hm : X.mg "max" = none) (ha : SE X T C W a ia) (he : starEach [a] X.env = (false, eval a X.env) :: starEach [] X.env := by rfl) : SE X T C W (.Call (.Name "max" p) [a] [] pos) (.b1 .max ia) := s_callB (k_max1 hc hu) PyProof.Rows.boot_max hg hm ha (he := he)
end
end Itp

set_option Elab.async false
set_option linter.all false
set_option autoImplicit false
set_option maxRecDepth 100000
set_option maxHeartbeats 4000000
/-! sorted(set(t)), list(range(..)), reversed(range(..)). -/
namespace Itp
open PySem L2
section
variable {X : Cx} {T : Ct} {C : CallF} {W : WX} {a b : Expr} {ia ib : E} {p p2 q pos : Pos}
def rSetI (K : PySem.W.Frag) (w : World) : List V → Hp → VK → Prop := fun xs H Q => ∃ (l : Addr) (ns : List Int), xs = [V.ref l] ∧ SqT K H l (ns.map V.int) ∧ ns.length < 64 ∧ ∀ a c, H a = none → c ≤ ns.length → Q (.ref a) (upd H a (SetO w a (fun j => decide (j ∈ ns)) c))
theorem cr_setI (hc : X.calm = true) : CallR X (.type "set") (rSetI X.K X.w) := by
  intro pins s σ H vs us Q I r h
  obtain ⟨l, ns, rfl, hq, hl, k⟩ := h
  rw [Vals.ref1 r]
  obtain ⟨its, rv, pt, hz⟩ := I.tuple hq
  have hi : PyProof.Rows.IntsAre its.toArray.toList ns := ints_of_vals rv
  refine call_set_tupI ns (I.ok.hd hc) (show s.heap.IsTuple l its.toArray from pt) hi (by unfold scanBound; omega) fun h' tk c R1 hcn kk => ?_
  exact ⟨.ref s.heap.objs.size, _, I.laid (t' := tk) kk (Nat.le_refl _) (setO_new R1), rfl, k _ c (I.hok.fresh (Nat.le_refl _)) hcn⟩
theorem s_sortedSet (hc : X.calm = true) (hg : Gl X "sorted") (hm : X.mg "sorted" = none) (hg2 : Gl X "set") (hm2 : X.mg "set" = none) (ha : SE X T C W a ia)
    (he : starEach [a] X.env = (false, eval a X.env) :: starEach [] X.env := by rfl) (he2 : starEach [.Call (.Name "set" p2) [a] [] q] X.env = (false, eval (.Call (.Name "set" p2) [a] [] q) X.env) :: starEach [] X.env := by rfl) :
    SE X T C W (.Call (.Name "sorted" p) [.Call (.Name "set" p2) [a] [] q] [] pos) (.b1 .sortedSet ia) := by
  refine imE (pe_callB (cr_sortedSet hc) hg hm PyProof.Rows.boot_sorted (pa_cons (pe_callTy (cr_setI hc) hg2 hm2 PyProof.Rows.boot_set (s_acons ha s_anil he) (by decide) (by decide) he rfl) pa_nil he2) (by decide) (by decide) he2 rfl) fun σ H Q h => ?_
  obtain ⟨env, m, e, er, o⟩ := oneA (f := fun S v => b1D S .sortedSet v) h
  refine ⟨env, m, e, er, o.imp ?_⟩
  rintro xs H1 ⟨m1, as, rfl, vs, o1⟩
  obtain ⟨u, x, rfl, va, o1⟩ := f1_out vs o1
  replace o1 : OutD m1 (sortSetD u) Q := o1
  unfold sortSetD at o1
  split at o1
  · rename_i ds
    split at o1
    · rename_i hh
      rw [Bool.and_eq_true] at hh
      obtain ⟨pp, ys, rfl, h1, _, r1⟩ := Dr.tup_inv va
      have ey := r1.allI hh.1
      have hlen : (intsOf ds).length < 64 := by
        have := Nat.blt_eq.mp hh.2
        have e2 := r1.length
        rw [ey, List.length_map] at e2
        omega
      refine ⟨pp, intsOf ds, rfl, ?_, hlen, fun a c ha hcl => ?_⟩
      · rw [← ey]; exact sqT h1
      · refine ⟨a, _, c, rfl, upd_same, by omega, fun ns p hs hk hl hp => ?_⟩
        have en : ns = srtU (intsOf ds) := asc_unique hs (srtU_asc _) fun k => by rw [hk k, srtU_mem]; simp
        subst en
        have hp' : (m1.add a _ ha).H p = none := hp
        exact OutD.new (OutD.fut (m1.add_fut ha) rfl o1) (dr_newL (DrAll.of_ints _)) p hp'
    · exact o1.elim
  · exact o1.elim
/-! ### ranges as arguments -/
/-- what makes a range -/
def SR (X : Cx) (T : Ct) (C : CallF) (W : WX) (e : Expr) (i : E) : Prop := ∃ t, PRg X e t ∧ ∀ σ H Q, (∃ (env : Ev) (m : Mem X.prog X.w T), m.H = H ∧ EnvR X.K m env σ ∧
    OutG (R := fun _ (xs : List D) (ab : Int × Int) => xs = rangeD ab.1 ab.2 ∧ rngOk ab.1 ab.2 = true) W σ m ((sem C i).i env m.S) (fun ab H1 => Q ab.1 ab.2 H1)) → t σ H Q
theorem r_1 (hg : Gl X "range") (hm : X.mg "range" = none) (ha : SE X T C W a ia) (hs : starEach [a] X.env = (false, eval a X.env) :: starEach [] X.env := by rfl) : SR X T C W (.Call (.Name "range" p) [a] [] pos) (.rng1 ia) := by
  refine ⟨_, prg_1 hg hm ha hs, fun σ H Q h => ?_⟩
  obtain ⟨env, m, rfl, er, o⟩ := h
  refine ⟨env, m, rfl, er, (OutG.bind (R := VR X.K) (r := (sem C ia).v env m.S) o).imp ?_⟩
  rintro y H1 ⟨u, m1, f1, rfl, hv, q1⟩
  unfold rngI at q1
  split at q1
  · rename_i i j e1
    cases e1
    cases Dr.int_inv hv
    split at q1
    · rename_i hj
      exact ⟨j, rfl, q1 (0, j) m1 (Fut.refl _) rfl ⟨rfl, hj⟩⟩
    · exact q1.elim
  · exact q1.elim
theorem r_2 (hg : Gl X "range") (hm : X.mg "range" = none) (ha : SE X T C W a ia) (hb : SE X T C W b ib) (na : starEach [a, b] X.env = (false, eval a X.env) :: starEach [b] X.env := by rfl)
    (nb : starEach [b] X.env = (false, eval b X.env) :: starEach [] X.env := by rfl) (hp : (backTo pos (starEach [b] X.env)).any (·.1) = false := by rfl) : SR X T C W (.Call (.Name "range" p) [a, b] [] pos) (.rng2 ia ib) := by
  refine ⟨_, prg_2 hg hm ha hb na nb hp, fun σ H Q h => ?_⟩
  obtain ⟨env, m, rfl, er, o⟩ := h
  refine ⟨env, m, rfl, er, (OutG.bind (R := VR X.K) (r := (sem C ia).v env m.S) o).imp ?_⟩
  rintro y H1 ⟨u, m1, f1, rfl, hv, q1⟩
  refine ⟨env, m1, rfl, er.mono f1, (OutG.bind (R := VR X.K) (r := (sem C ib).v env m1.S) q1).imp ?_⟩
  rintro z H2 ⟨u2, m2, f2, rfl, hv2, q2⟩
  have hv := hv.mono f2
  unfold rngI at q2
  split at q2
  · cases Dr.int_inv hv
    cases Dr.int_inv hv2
    split at q2
    · rename_i hj
      exact ⟨_, _, rfl, rfl, q2 (_, _) m2 (Fut.refl _) rfl ⟨rfl, hj⟩⟩
    · exact q2.elim
  · exact q2.elim
theorem rgV_dr {P : Program} {w : World} {T : Ct} {M : Addr → Prop} {H : Hp} (i j : Int) : DrAll P w T M H (rangeD i j) (rgV i j) := by
  unfold rangeD rgV
  generalize List.range (j - i).toNat = l
  induction l with
  | nil => exact .nil
  | cons k r ih => exact .cons (.int _) ih
theorem s_lrg (hc : X.calm = true) (hg : Gl X "list") (hm : X.mg "list" = none) (ha : SR X T C W a ia) (na : starEach [a] X.env = (false, eval a X.env) :: starEach [] X.env := by rfl) : SE X T C W (.Call (.Name "list" p) [a] [] pos) (.lrg ia) := by
  obtain ⟨t, ht, h0⟩ := ha
  refine imE (pe_listRg hc hg hm ht na) fun σ H Q h => h0 σ H _ ?_
  obtain ⟨env, m, rfl, er, o⟩ := h
  refine ⟨env, m, rfl, er, ?_⟩
  replace o : OutG (VR X.K) W σ m (((sem C ia).i env m.S).bind fun xs S => if inLine xs.length then .ok (.d (.list xs)) S else .er) Q := o
  cases hr : (sem C ia).i env m.S with
  | ok xs S =>
    rw [hr] at o
    rintro ⟨i, j⟩ m1 f1 rfl ⟨rfl, hij⟩
    replace o : OutG (VR X.K) W σ m (if inLine (rangeD i j).length then .ok (.d (.list (rangeD i j))) m1.S else .er) Q := o
    split at o
    · rename_i hl
      have hij := rngOk_iff.mp hij
      refine ⟨⟨by omega, by omega, by omega, by omega, ?_⟩, ?_⟩
      · show (j - i).toNat ≤ _
        omega
      · exact OutD.new (d := .list (rangeD i j)) (fun x m' f e y => o x m' (f1.trans f) e y) (dr_newL (rgV_dr i j))
    · exact o.elim
  | ex c fs S => rw [hr] at o; exact o
  | er => rw [hr] at o; exact o
theorem i_rvr {tg : Expr} (hg : Gl X "reversed") (hm : X.mg "reversed" = none) (ha : SR X T C W a ia) (na : starEach [a] X.env = (false, eval a X.env) :: starEach [] X.env := by rfl) : SI X T C W tg (.Call (.Name "reversed" p) [a] [] pos) (.rvr ia) := by
  obtain ⟨t, ht, h0⟩ := ha
  refine imI (pi_revR hg hm ht na) fun σ H R h => h0 σ H _ ?_
  obtain ⟨env, m, rfl, er, o⟩ := h
  refine ⟨env, m, rfl, er, ?_⟩
  replace o : OutG (ItR X.prog X.w T (VR X.K)) W σ m (((sem C ia).i env m.S).bind fun xs S => .ok xs.reverse S) R := o
  cases hr : (sem C ia).i env m.S with
  | ok xs S =>
    rw [hr] at o
    rintro ⟨i, j⟩ m1 f1 rfl ⟨rfl, hij⟩
    have hij := rngOk_iff.mp hij
    refine ⟨by omega, by omega, by omega, by omega, o _ m1 f1 rfl ?_⟩
    intro m' f k
    have hlen : (rangeD i j).reverse.length = (j - i).toNat := by simp [rangeD]
    refine ⟨fun x hx => ?_, fun h => by rw [hlen] at h; exact h⟩
    have hk : k < (j - i).toNat := by rw [← hlen]; exact (List.getElem?_eq_some_iff.mp hx).1
    refine ⟨hk, ?_⟩
    rintro y H' ⟨rfl, rfl⟩
    refine ⟨m', rfl, Fut.refl m', rfl, ?_⟩
    rw [List.getElem?_reverse (by simp [rangeD]; omega)] at hx
    unfold rangeD at hx
    rw [List.getElem?_map] at hx
    obtain ⟨n, hn, rfl⟩ := Option.map_eq_some_iff.mp hx
    obtain ⟨hn1, hn2⟩ := List.getElem?_eq_some_iff.mp hn
    rw [List.getElem_range] at hn2
    simp at hn2
    have e : i + (n : Int) = i + (((j - i).toNat : Nat) : Int) - 1 + (k : Nat) * (-1) := by omega
    rw [e]
    exact .int _
  | ex c fs S => rw [hr] at o; exact o
  | er => rw [hr] at o; exact o
/-! ### sum -/
theorem preSum_list (ns : List Int) : ∀ j, preSum (fun i => ns.getD i 0) j = (ns.take j).sum
  | 0 => rfl
  | j + 1 => by
    show preSum (fun i => ns.getD i 0) j + ns.getD j 0 = _
    rw [preSum_list ns j, List.take_succ, List.sum_append]
    cases h : ns[j]? with
    | none => simp [List.getD, h]
    | some k => simp [List.getD, h]
theorem sum_tup {prog : Program} {w : World} {A : Around} {E : Value → Shared → Prop} {s : Shared} {l : Addr} {its : List Value} {ns : List Int} {Q : Value → Shared → Prop} (hh : A.handled = none) (hl : s.heap.IsTuple l its.toArray) (hi : PyProof.Rows.IntsAre its ns)
    (h : ∀ h' tk t', (∀ b o, s.heap.get? b = some o → h'.get? b = some o) → Q (.int ns.sum t') { s with heap := h', toks := tk }) : wpAny (model prog w) A (call (.builtin "sum") [.ref l]) Q E s := by
  have hlen := PyProof.Rows.IntsAre.length hi
  refine call_sum_walkAnyS (PySem.W.iter_tupleW (A := A.in1) hh hl fun s₂ e W st hfp hw hk => ?_)
  refine ⟨_, _, _, _, _, _, _, fun i => ns.getD i 0, rfl, W, st, hfp, fun i v hv => ?_, fun s' t' m => ?_⟩
  · have hv : its[i]? = some v := by simpa using hv
    obtain ⟨t, e⟩ := PyProof.Rows.IntsAre.int_at hi i v hv
    exact ⟨t, e⟩
  · obtain ⟨h', tk, rfl, hk'⟩ := PySem.W.moved_old e rfl m
    have := h h' tk t' hk'
    rw [preSum_list, List.take_of_length_le (by simp; omega)]
    exact this
theorem k_sum (hc : X.calm = true) : CallR X (.builtin "sum") (rB1 X T .sum) := by
  intro pins s σ H xs us Q I r h
  obtain ⟨m, as, rfl, vs, o⟩ := h
  obtain ⟨a, x, rfl, va, o⟩ := f1_out vs o
  replace o : OutD m (sumD m.S a) Q := o
  unfold sumD at o
  split at o
  · rename_i ds e
    split at o
    · rename_i hi
      obtain ⟨p, xs, rfl, h1, r1⟩ := seq_of va e
      rw [sumI_eq ds hi] at o
      have ex := r1.allI hi
      rcases h1 with h1 | h1
      · rw [ex] at h1
        exact cr_sum hc pins s σ m.H _ us Q I r ⟨p, _, rfl, SqL.of h1, o.get (.int _)⟩
      · rw [ex] at h1
        rw [Vals.ref1 r]
        obtain ⟨its, rv, pt, hz⟩ := I.tuple (sqT h1)
        exact sum_tup (I.ok.hd hc) (show s.heap.IsTuple p its.toArray from pt) (ints_of_vals rv) fun h' tk t' hk => ⟨.int _, m.H, I.kept hk, ⟨_, rfl⟩, o.get (.int _)⟩
    · exact o.elim
  · exact o.elim
theorem s_sum (hc : X.calm = true) (hg : Gl X "sum") (hm : X.mg "sum" = none) (ha : SE X T C W a ia) (he : starEach [a] X.env = (false, eval a X.env) :: starEach [] X.env := by rfl) : SE X T C W (.Call (.Name "sum" p) [a] [] pos) (.b1 .sum ia) := s_callB (k_sum hc) PyProof.Rows.boot_sum hg hm ha (he := he)
end
end Itp

set_option Elab.async false
set_option linter.all false
set_option autoImplicit false
set_option maxRecDepth 100000
set_option maxHeartbeats 4000000
/-! Dicts made, stores to subscripts, three names at once. -/
namespace Itp
open PySem L2
section
variable {X : Cx} {T : Ct} {C : CallF} {W : WX} {a b c e k v o i : Expr} {ia ib ic ie ik iv io ii : E} {is : List E} {p pos tpos : Pos} {fu : Nat}
theorem dic_put {m : Mem X.prog X.w T} {n : Nat} {p : Addr × Addr} {kvs kvs' : List (D × D)} {ob : HO} (hp : m.φ[n]? = some p) (hS : m.S[n]? = some (.dic kvs)) (h : DicO m p.1 kvs' ob) : ∃ m' : Mem X.prog X.w T, m'.S = m.S.set n (.dic kvs') ∧ m'.H = upd m.H p.1 ob ∧ Fut m m' :=
  m.putAt hp hS rfl fun _ k => by
    rcases h with ⟨hv, rfl, h1, h2⟩ | ⟨xs, vs, rfl, h1, h2, h3, h4⟩
    · exact .inl ⟨hv, upd_same, DrAll.mono k _ _ h1, h2⟩
    · exact .inr ⟨xs, vs, upd_same, DrAll.mono k _ _ h1, h2, h3, DrAll.mono k _ _ h4⟩
/-- a new empty dict -/
theorem push_dic (m : Mem X.prog X.w T) (p : Addr) (hp : m.H p = none) : ∃ m' : Mem X.prog X.w T, m'.S = m.S ++ [.dic []] ∧ m'.H = upd m.H p (.dK []) ∧ Fut m m' ∧ m'.φ[m.S.length]? = some (p, p) := by
  have k := upd_keep (o := .dK []) hp
  have ob : ∀ M : Addr → Prop, (∀ x u, m.H x = some u → ¬ m.M x → ¬ M x) → ObR X.prog X.w T M (upd m.H p (.dK [])) p p (.dic []) := fun M hM => .inl ⟨[], upd_same, .nil, rfl⟩
  have t : (upd m.H p (.dK []) p).isSome = true := by rw [upd_same]; rfl
  refine ⟨m.push (.dic []) p p _ hp hp k t t rfl ob, rfl, rfl, m.push_fut hp hp k t t rfl ob, ?_⟩
  show (m.φ ++ [(p, p)])[m.S.length]? = some (p, p)
  rw [← m.len, List.getElem?_append_right (Nat.le_refl _)]
  simp
theorem s_dnew : SE X T C W (.Dict [] [] pos) .dnew := by
  refine imE pe_dnewK fun σ H Q h => ?_
  obtain ⟨env, m, rfl, er, o⟩ := h
  intro p hp
  obtain ⟨m', e1, e2, f, at_⟩ := push_dic m p hp
  rw [← e2]
  exact o (.ref p) m' f e1 ⟨(p, p), at_, rfl⟩
theorem s_dn1 (hu : X.A.units + 65 < cLine) (hk : SE X T C W k ik) (hv : SE X T C W v iv) : SE X T C W (.Dict [some k] [v] pos) (.dn1 ik iv) := by
  refine ⟨fun pins s σ H Q I h => ?_⟩
  obtain ⟨env, m, rfl, er, o⟩ := h
  have hn := I.hok.fresh (Nat.le_refl s.heap.objs.size)
  obtain ⟨m1, e1, e2, f1, at1⟩ := push_dic m s.heap.objs.size hn
  have I1 := I.laid (a := s.heap.objs.size) (o := .dK []) (h' := s.heap.push { cls := .type "dict", data := .dict #[] }) (t' := s.toks) (fun _ _ q => Heap.get?_push_of_some _ q) (Nat.le_refl _) (dk_empty s.heap I.big)
  rw [← e2] at I1
  replace o : OutG (VR X.K) W σ m (((sem C ik).v env (m.S ++ [.dic []])).bind fun x S1 => ((sem C iv).v env S1).bind fun y S2 => put1 m.S.length x y S2) Q := o
  rw [← e1] at o
  have o := OutG.fut f1 o
  have t1 : tE X.prog X.w T X.K (sem C ik).v W σ m1.H fun x H1 => ∃ (m2 : Mem X.prog X.w T) (xa : Vl), m2.H = H1 ∧ Fut m1 m2 ∧ EnvR X.K m2 env σ ∧ VR X.K m2 xa x ∧ OutG (VR X.K) W σ m2 (((sem C iv).v env m2.S).bind fun y S2 => put1 m.S.length xa y S2) Q := by
    refine ⟨env, m1, rfl, er.mono f1, (OutG.bind (R := VR X.K) (r := (sem C ik).v env m1.S) o).imp ?_⟩
    rintro x H1 ⟨xa, m2, f2, rfl, vx, o2⟩
    exact ⟨m2, xa, rfl, f2, (er.mono f1).mono f2, vx, o2⟩
  refine wpAny_Dict_any rfl rfl (by simp) (by simp) (pairTrees_cons_walk (thn (hk.run pins _ σ m1.H _ I1 t1) fun u s2 ⟨x, H2, I2, rx, m2, xa, e3, f2, er2, vx, o2⟩ => ?_))
  subst e3
  have t2 : tE X.prog X.w T X.K (sem C iv).v W σ m2.H fun y H1 => ∃ (m3 : Mem X.prog X.w T) (ya : Vl), m3.H = H1 ∧ Fut m2 m3 ∧ VR X.K m3 ya y ∧ OutG (VR X.K) W σ m3 (put1 m.S.length xa ya m3.S) Q := by
    refine ⟨env, m2, rfl, er2, (OutG.bind (R := VR X.K) (r := (sem C iv).v env m2.S) o2).imp ?_⟩
    rintro y H1 ⟨ya, m3, f3, rfl, vy, o3⟩
    exact ⟨m3, ya, rfl, f3, vy, o3⟩
  refine thn (hv.run pins s2 σ m2.H _ I2 t2) fun u2 s3 ⟨y, H3, I3, ry, m3, ya, e4, f3, vy, o3⟩ => pairTrees_nil_walk ?_
  subst e4
  have vx := vx.mono f3
  obtain ⟨kd, vd, rfl, rfl, hS, hkk, o3⟩ : ∃ kd vd, xa = .d kd ∧ ya = .d vd ∧ m3.S[m.S.length]? = some (.dic []) ∧ (okK kd && isTup kd) = true ∧ OutG (VR X.K) W σ m3 (.ok (.r m.S.length) (m3.S.set m.S.length (.dic [(kd, vd)]))) Q := by
    unfold put1 at o3
    split at o3
    · split at o3
      · exact ⟨_, _, rfl, rfl, by assumption, by assumption, o3⟩
      · exact o3.elim
    · exact o3.elim
  rw [Bool.and_eq_true] at hkk
  obtain ⟨ok, ht⟩ := hkk
  have at3 : m3.φ[m.S.length]? = some (s.heap.objs.size, s.heap.objs.size) := f3.pre _ _ (f2.pre _ _ at1)
  have da : DicAt m3 s.heap.objs.size [] := by
    rcases m3.obj _ _ _ at3 hS with ⟨hv, h1, h2, h3⟩ | ⟨xs, vs, h1, h2, h3, h4, h5⟩
    · exact .inl ⟨hv, .inl h1, h2, h3⟩
    · exact .inr ⟨xs, vs, .inl h1, h2, h3, h4, h5⟩
  have mu : Mut (m3.H s.heap.objs.size) := by
    rcases m3.obj _ _ _ at3 hS with ⟨hv, h1, _⟩ | ⟨xs, vs, h1, _⟩ <;> rw [h1] <;> exact trivial
  obtain ⟨hs, xs, vs, hl, dd, hdp, rk, ek, rv, r⟩ := rawN I3 da fun q hq => by cases hq
  have xn : xs = [] := by cases xs with
    | nil => rfl
    | cons _ _ => cases ek
  subst xn
  obtain ⟨nk, hnk, hdep⟩ := okK_nk kd ok
  have en := nkOf_nD kd nk hnk
  subst en
  have ni := nk_is I3 nk x u vx rx
  obtain ⟨b, rfl, eb⟩ : ∃ b, u = .ref b ∧ x = .ref b := by
    cases nk with
    | tup ks => obtain ⟨b, xs, rfl, _⟩ := Dr.tup_inv (ds := nDs ks) vx; cases rx; exact ⟨b, rfl, rfl⟩
    | _ => cases ht
  subst eb
  refine wpAny_storeAllH (knd := nestedKind X.prog X.w) (show X.A.units + 8 < cLine by omega) [(.ref b, u2)] [(nk, b, u2)] [] s3 _ ⟨rfl, rfl, ⟨ni, by omega⟩, trivial⟩ dd (by rw [sizeLine_eq]; simp) fun h' tk dd' hsm => ?_
  have dd' : h'.DictOfH (nestedKind X.prog X.w) s.heap.objs.size [(nk, b, u2)] := dd'
  have hO : DicO m3 s.heap.objs.size [(nD nk, vd)] (NestO X.prog X.w s.heap.objs.size [(nk, b, u2)]) := .inr ⟨_, [y], rfl, .cons vx .nil, rfl, .cons ry .nil, .cons vy .nil⟩
  obtain ⟨m4, e5, e6, f4⟩ := dic_put at3 hS hO
  have he : ∃ q, h'.get? s.heap.objs.size = some q := let ⟨q, _, _, hq, _⟩ := dd'; ⟨q, hq⟩
  have I4 := d_write (t' := tk) I3 mu hsm he (nest_ok (H' := upd m3.H s.heap.objs.size (NestO X.prog X.w s.heap.objs.size [(nk, b, u2)])) dd' (fun z hz => by simp at hz; subst hz; show nk.depth ≤ 8; omega) hs (by rw [sizeLine_eq]; simp))
  rw [show upd m3.H s.heap.objs.size (NestO X.prog X.w s.heap.objs.size [(nk, b, u2)]) = m4.H from e6.symm] at I4
  exact ⟨.ref s.heap.objs.size, m4.H, I4, rfl, o3 _ m4 f4 e5 ⟨_, f4.pre _ _ at3, rfl⟩⟩
theorem s_fre (he : SE X T C W e ie) : SE X T C W e (.fre ie) := by
  refine ⟨fun pins s σ H Q I h => ?_⟩
  obtain ⟨env, m, rfl, er, o⟩ := h
  have t1 : tE X.prog X.w T X.K (sem C ie).v W σ m.H fun x H1 => ∃ (m1 : Mem X.prog X.w T) (xa : Vl), m1.H = H1 ∧ VR X.K m1 xa x ∧ OutG (VR X.K) W σ m1 (freV xa m1.S) Q := by
    refine ⟨env, m, rfl, er, (OutG.bind (R := VR X.K) (r := (sem C ie).v env m.S) o).imp ?_⟩
    rintro x H1 ⟨xa, m2, f2, rfl, vx, o2⟩
    exact ⟨m2, xa, rfl, vx, o2⟩
  refine thn (he.run pins s σ m.H _ I t1) fun u s2 ⟨x, H2, I2, rx, m2, xa, e3, vx, o2⟩ => ?_
  subst e3
  unfold freV at o2
  split at o2
  · rename_i n
    obtain ⟨p, hp, rfl⟩ := vx
    split at o2
    · rename_i ds hS
      obtain ⟨xs, h1, r1⟩ := m2.obj n p _ hp hS
      have th := m2.there n p hp
      obtain ⟨m3, e1, e2, f1, nM⟩ := fz_mem (H' := m2.H) hp hS rfl (fun _ _ _ => rfl) th.1 th.2
      refine ⟨.ref p.1, m2.H, I2, rx, ?_⟩
      have := o2 (.ref p.1) m3 f1 e2 (Dr.lst (by rw [e1]; exact h1) nM (DrAll.mono f1.keep _ _ r1))
      rw [e1] at this
      exact this
    · rename_i kvs hS
      obtain ⟨m3, I', e2, f1, dr⟩ := fz_dic I2 hp hS
      exact ⟨.ref p.1, m3.H, I', rx, o2 (.ref p.1) m3 f1 e2 dr⟩
    · exact o2.elim
  · exact o2.elim
/-! ### o[i] = v -/
theorem dicAt_obj {m : Mem X.prog X.w T} {n : Nat} {p : Addr × Addr} {kvs : List (D × D)} (hp : m.φ[n]? = some p) (hS : m.S[n]? = some (.dic kvs)) : DicAt m p.1 kvs ∧ Mut (m.H p.1) := by
  rcases m.obj _ _ _ hp hS with ⟨hv, h1, h2, h3⟩ | ⟨xs, vs, h1, h2, h3, h4, h5⟩
  · exact ⟨.inl ⟨hv, .inl h1, h2, h3⟩, by rw [h1]; exact trivial⟩
  · exact ⟨.inr ⟨xs, vs, .inl h1, h2, h3, h4, h5⟩, by rw [h1]; exact trivial⟩
theorem x_set (hu : X.A.units + 65 < cLine) : PSet X (fun o i v H Q => ∃ (m : Mem X.prog X.w T) (a b c : Vl) (env : Ev) (σ : St), m.H = H ∧ VR X.K m a o ∧ VR X.K m b i ∧ VR X.K m c v ∧ OutG (fun (_ : Mem X.prog X.w T) (e : Ev) (_ : Unit) => e = env) WF σ m (setSub a b c env m.S) (fun _ H' => Q H')) := by
  intro pins s σ H o i v ov iv u Q I ro ri rv h
  obtain ⟨m, a, b, c, env, σ0, rfl, va, vb, vc, out⟩ := h
  unfold setSub at out
  split at out
  · rename_i n k z
    obtain ⟨p, hp, rfl⟩ := va
    split at out
    · rename_i ds j hS
      split at out
      · rename_i hj
        have hj : 0 ≤ j ∧ j < ds.length := of_decide_eq_true hj
        obtain ⟨xs, h1, r1⟩ := m.obj n p _ hp hS
        cases Dr.int_inv vb
        have hl := r1.length
        refine set_list pins s σ m.H _ _ v ov iv u Q I ro ri rv ⟨p.1, xs, j, j.toNat, rfl, rfl, h1, ?_, ?_⟩
        · unfold ixN
          rw [if_pos hj.1, if_pos (by omega)]
        · obtain ⟨m', e1, e2, f⟩ := m.putL hp hS (DrAll.set vc j.toNat r1)
          rw [← e2]
          exact out () m' f e1 rfl
      · exact out.elim
    · rename_i k kvs hS
      split at out
      · rename_i hk
        rw [Bool.and_eq_true] at hk
        obtain ⟨da, mu⟩ := dicAt_obj hp hS
        cases ro
        have hl : kvs.length + 1 ≤ 100000 := Nat.ble_eq.mp hk.2
        refine dic_set mu (by omega) I da hk.1 vb ri vc rv (by omega) fun ob s' hO I' => ?_
        obtain ⟨m', e1, e2, f⟩ := dic_put hp hS hO
        rw [← e2] at I'
        exact ⟨m'.H, I', out () m' f e1 rfl⟩
      · exact out.elim
    · exact out.elim
  · exact out.elim
theorem g_sub {I : St → St → Prop} (hI : Itr_ I) (hu : X.A.units + 65 < cLine) (ho : SE X T C WF o io) (hi : SE X T C WF i ii)
    (ha : ∀ v, assign (.Subscript o i pos) X.env v = (do
      let ov ← holding [v] (eval o X.env)
      let iv ← holding [v, ov] (eval i X.env)
      standAt pos
      holding [v, ov, iv] (setItem ov iv v)
      release [v, ov, iv] []) := by intro _; rfl) : SG X T C I (.Subscript o i pos) (.sub io ii) := by
  refine imG (pg_sub ho hi (x_set (T := T) hu) ha) fun v σ H Q h => ?_
  obtain ⟨env, m, u, rfl, er, hv, out⟩ := h
  refine ⟨env, m, rfl, er, (OutG.bind (R := VR X.K) (r := (sem C io).v env m.S) out).imp ?_⟩
  rintro y H1 ⟨ya, m1, f1, rfl, vy, o1⟩
  refine ⟨env, m1, rfl, er.mono f1, (OutG.bind (R := VR X.K) (r := (sem C ii).v env m1.S) o1).imp ?_⟩
  rintro z H2 ⟨za, m2, f2, rfl, vz, o2⟩
  refine ⟨m2, ya, za, u, env, σ, rfl, vy.mono f2, vz, hv.mono (f1.trans f2), ?_⟩
  have key : ∀ r : Re Ev, OutG (RI X.prog X.w T X.K I σ) WF σ m2 r Q → (∀ e S, r = .ok e S → e = env) → OutG (fun (_ : Mem X.prog X.w T) (e : Ev) (_ : Unit) => e = env) WF σ m2 r (fun _ H' => Q σ H') := by
    intro r hr he
    cases r with
    | ok e S =>
      intro b m' f e' _
      have := he e S rfl
      subst this
      exact hr σ m' f e' ⟨(er.mono f1).mono (f2.trans f), hI.refl σ⟩
    | ex c fs S => exact hr
    | er => exact hr
  refine key _ o2 ?_
  intro e S hr
  unfold setSub at hr
  split at hr
  · split at hr
    · split at hr
      · cases hr; rfl
      · cases hr
    · split at hr
      · cases hr; rfl
      · cases hr
    · cases hr
  · cases hr
/-! ### three names at once -/
theorem t_par3 {i j l : Nat} {x y z : Str} {px py pz pt pt2 : Pos} {kt k2 : Nat} (hc : X.calm = true) (hN : X.N.Nodup) (ha : SA X T C W [a, b, c] [ia, ib, ic]) (hi : X.N[i]? = some x := by rfl) (hj : X.N[j]? = some y := by rfl) (hl : X.N[l]? = some z := by rfl) (hij : i ≠ j := by decide) (hil : i ≠ l := by decide) (hjl : j ≠ l := by decide)
    (hx : X.env.scope.names.lookup x = some .local := by rfl) (hy : X.env.scope.names.lookup y = some .local := by rfl) (hz : X.env.scope.names.lookup z = some .local := by rfl)
    (hw : swappedStores [.Tuple [.Name x px, .Name y py, .Name z pz] kt pt] (.Tuple [a, b, c] k2 pt2) X.env = pure (some [x, y, z]) := by rfl) (hs : swapsWithSole [.Tuple [.Name x px, .Name y py, .Name z pz] kt pt] (.Tuple [a, b, c] k2 pt2) pos.line X.env = pure false := by rfl) :
    SS X T C W fu (.Assign [.Tuple [.Name x px, .Name y py, .Name z pz] kt pt] (.Tuple [a, b, c] k2 pt2) pos) (.par [i, j, l] [ia, ib, ic]) := by
  refine imS (ps_par3 hc hN hi hj hl hij hil hjl hx hy hz ha hw hs) fun D σ H h => ?_
  obtain ⟨env, m, rfl, er, o⟩ := h
  refine ⟨env, m, rfl, er, (OutS.bindS (R := VRs X.K) (r := evalEs C [ia, ib, ic] env m.S) er o).imp ?_⟩
  rintro ys H1 ⟨us, m1, f1, rfl, hv, o1⟩
  cases hv with
  | nil => exact o1.elim
  | cons p1 q1 => cases q1 with
    | nil => exact o1.elim
    | cons p2 q2 => cases q2 with
      | nil => exact o1.elim
      | cons p3 q3 => cases q3 with
        | cons _ _ => exact o1.elim
        | nil => exact ⟨_, _, _, rfl, OutS.nx (env := ((env.set i (some _)).set j (some _)).set l (some _)) o1 ((((er.mono f1).set p1).set p2).set p3)⟩
end
end Itp

set_option Elab.async false
set_option linter.all false
set_option autoImplicit false
set_option maxRecDepth 100000
set_option maxHeartbeats 4000000
/-! A def called without arguments, a def of a list, d.get, xs[i] op= e. -/
namespace Itp
open PySem L2
section
variable {X : Cx} {T : Ct} {C : CallF} {W : WX} {a b c e k v o i : Expr} {es : List Expr} {ia ib ic ie ik iv io ii : E} {is : List E} {x : Str} {p pos tpos lp sp apos cpos : Pos} {fu f : Nat} {ad : Addr} {lv : Nat}
theorem s_call0 (F : FnE X.prog X.w X.K X.mg X.base T C lv f ad) (hr : Room lv X.A) (tk : Takes X W) (hg : Gl X x) (hm : X.mg x = some (.ref ad)) (hdb : (x == ("__debug__" : Str)) = false := by decide) :
    SE X T C W (.Call (.Name x p) [] [] pos) (.call f []) := by
  obtain ⟨fd, ps, ok, hb⟩ := F.ok
  refine ⟨fun pins s σ H Q I h => ?_⟩
  obtain ⟨env, m, rfl, er, oo⟩ := h
  refine wpAny_Call_Name_kw (ld_glob I hg hm ?_ hdb)
  refine PySem.W.callWith_K0 I.kIn F.kp (run_fnSD (E := WE W) (us := []) (vs := []) (dvs := []) (ds := []) ok hr hb .nil (passAt tk σ) I .nil ?_)
  exact ⟨m, [], rfl, .nil, OutG.cv (W' := fun c d _ H => WE W σ c d H) (σ' := []) oo fun c d H h => h⟩
/-! ### a def of a list -/
def FL (X : Cx) (ns : List Expr) (ads : List Addr) : Prop := PA X ns (fun _ H Q => Q (ads.map V.ref) H)
theorem fl_nil : FL X [] [] := imA pa_nil fun σ H Q h => h
theorem fl_cons {ads : List Addr} (hg : Gl X x) (hm : X.mg x = some (.ref ad)) (h : FL X es ads) (hdb : (x == ("__debug__" : Str)) = false := by decide) (hs : starEach (.Name x p :: es) X.env = (false, eval (.Name x p) X.env) :: starEach es X.env := by rfl) : FL X (.Name x p :: es) (ad :: ads) :=
  imA (pa_cons (pe_glob (v := .ref ad) hg hm rfl hdb) h hs) fun σ H Q h => h
inductive FEs (X : Cx) (T : Ct) (C : CallF) (lv : Nat) : List Nat → List Addr → Prop
  | nil : FEs X T C lv [] []
  | cons {f : Nat} {ad : Addr} {fs : List Nat} {ads : List Addr} : FnE X.prog X.w X.K X.mg X.base T C lv f ad → FEs X T C lv fs ads → FEs X T C lv (f :: fs) (ad :: ads)
theorem FEs.get {fs : List Nat} {ads : List Addr} (h : FEs X T C lv fs ads) : fs.length = ads.length ∧ ∀ (j : Nat) (f : Nat), fs[j]? = some f → ∃ ad, ads[j]? = some ad ∧ FnE X.prog X.w X.K X.mg X.base T C lv f ad := by
  induction h with
  | nil => exact ⟨rfl, fun j f e => by simp at e⟩
  | cons a b ih =>
    refine ⟨by simp [ih.1], fun j f e => ?_⟩
    cases j with
    | zero => simp at e; subst e; exact ⟨_, rfl, a⟩
    | succ j => exact ih.2 j f (by simpa using e)
theorem atI_mapV {α β : Type} (f : α → β) (l : List α) (i : Int) : atI (l.map f) i = (atI l i).map f := by
  unfold atI
  rw [List.length_map]
  cases ixN l.length i with
  | none => rfl
  | some k => exact List.getElem?_map ..
theorem pick_run {pins : List (Addr × Obj)} {s : Shared} {σ : St} {m : Mem X.prog X.w T} {Q : VK} {fs : List Nat} {ads : List Addr} {ns : List Expr} {R : Vl → Ev → Sto → Re Vl} {env : Ev} (hf : FL X ns ads) (hF : FEs X T C lv fs ads) (hi : SE X T C W i ii) (I : L2.Inv X pins σ m.H s) (er : EnvR X.K m env σ)
    (oo : OutG (VR X.K) W σ m (((sem C ii).v env m.S).bind fun x S => R x env S) Q) (K : VK) (hK : ∀ (m1 : Mem X.prog X.w T) (j : Int) (f : Nat) (ad : Addr), Fut m m1 → EnvR X.K m1 env σ → atI fs j = some f → FnE X.prog X.w X.K X.mg X.base T C lv f ad → OutG (VR X.K) W σ m1 (R (.d (.int j)) env m1.S) Q → K (.ref ad) m1.H)
    (hR : ∀ x env S, (∀ j f, x = .d (.int j) → atI fs j ≠ some f) → R x env S = .er) (hs : PlainIx i) (hlen : fs.length ≤ 100) :
    wpAny (model X.prog X.w) X.A (eval (.Subscript (.List ns lp) i sp) X.env) (EP X pins σ K) X.xe s := by
  refine (pe_ix (ix_list (X := X)) (pe_lst hf) hi hs).run pins s σ m.H K I ?_
  refine ⟨?_, fun q hq => ?_⟩
  · have := hF.get.1
    rw [List.length_map, sizeLine_eq]
    omega
  · have f1 := m.add_fut (o := .lst (ads.map V.ref)) hq
    refine ⟨env, m.add q (.lst (ads.map V.ref)) hq, rfl, er.mono f1, (OutG.bind (R := VR X.K) (r := (sem C ii).v env m.S) (OutG.fut f1 oo)).imp ?_⟩
    rintro y H1 ⟨xa, m2, f2, rfl, vx, o2⟩
    have hl := (f2.keep q _ (upd_same : (m.add q (.lst (ads.map V.ref)) hq).H q = _) (m.add_new hq)).1
    by_cases hx : ∃ j f, xa = .d (.int j) ∧ atI fs j = some f
    · obtain ⟨j, f, rfl, hf'⟩ := hx
      cases Dr.int_inv vx
      obtain ⟨hln, hget⟩ := hF.get
      obtain ⟨ad, hat, hFn⟩ : ∃ ad, atI ads j = some ad ∧ FnE X.prog X.w X.K X.mg X.base T C lv f ad := by
        unfold atI at hf' ⊢
        rw [← hln]
        cases hi' : ixN fs.length j with
        | none => rw [hi'] at hf'; cases hf'
        | some z => rw [hi'] at hf'; exact hget z f hf'
      refine ⟨q, ads.map V.ref, j, .ref ad, rfl, rfl, SqL.of hl, ?_, hK m2 j f ad (f1.trans f2) ((er.mono f1).mono f2) hf' hFn o2⟩
      rw [atI_mapV, hat]
      rfl
    · rw [hR xa env m2.S fun j f e1 e2 => hx ⟨j, f, e1, e2⟩] at o2
      exact o2.elim
theorem s_pick0 {fs : List Nat} {ads : List Addr} {ns : List Expr} (hf : FL X ns ads) (hF : FEs X T C lv fs ads) (hr : Room lv X.A) (tk : Takes X W) (hi : SE X T C W i ii) (hs : PlainIx i := by exact fun _ _ => rfl) (hlen : fs.length ≤ 100 := by decide)
    (ht : eval (.Call (.Subscript (.List ns lp) i sp) [] [] pos) X.env = (do callWith pos (← eval (.Subscript (.List ns lp) i sp) X.env) [] (backTo pos (starEach [] X.env)) (backToKw pos (keywordEach [] X.env))) := by rfl) :
    SE X T C W (.Call (.Subscript (.List ns lp) i sp) [] [] pos) (.pick fs ii []) := by
  refine ⟨fun pins s σ H Q I h => ?_⟩
  obtain ⟨env, m, rfl, er, oo⟩ := h
  refine PyProof.Rows.Call_ (thn (pick_run (R := fun x env S => match x with | .d (.int k) => (match atI fs k with | some f => (vals (sems C []) env S).bind fun vs S => C f vs S | none => .er) | _ => .er) hf hF hi I er oo
    (fun y H1 => ∃ (m1 : Mem X.prog X.w T) (f : Nat) (ad : Addr), m1.H = H1 ∧ y = .ref ad ∧ FnE X.prog X.w X.K X.mg X.base T C lv f ad ∧ OutG (VR X.K) W σ m1 (C f [] m1.S) Q) ?_ ?_ hs hlen) fun u s1 ⟨y, H1, I1, ry, m1, f, ad, e1, e2, F, o1⟩ => ?_) ht
  · intro m1 j f ad f1 er1 hj F o1
    simp only [hj] at o1
    exact ⟨m1, f, ad, rfl, rfl, F, o1⟩
  · intro x env S hx
    split
    · rename_i k
      split
      · rename_i f hf'
        exact absurd hf' (hx k f rfl)
      · rfl
    · rfl
  · subst e1 e2
    cases ry
    obtain ⟨fd, ps, ok, hb⟩ := F.ok
    refine PySem.W.callWith_K0 I1.kIn F.kp (run_fnSD (E := WE W) (us := []) (vs := []) (dvs := []) (ds := []) ok hr hb .nil (passAt tk σ) I1 .nil ?_)
    exact ⟨m1, [], rfl, .nil, OutG.cv (W' := fun c d _ H => WE W σ c d H) (σ' := []) o1 fun c d H h => h⟩
theorem s_pick {fs : List Nat} {ads : List Addr} {ns : List Expr} (hf : FL X ns ads) (hF : FEs X T C lv fs ads) (hr : Room lv X.A) (tk : Takes X W) (hi : SE X T C W i ii) (ha : SA X T C W (e :: es) is) (hs : PlainIx i := by exact fun _ _ => rfl) (hlen : fs.length ≤ 100 := by decide)
    (ht : eval (.Call (.Subscript (.List ns lp) i sp) (e :: es) [] pos) X.env = (do callWith pos (← eval (.Subscript (.List ns lp) i sp) X.env) [] (backTo pos (starEach (e :: es) X.env)) (backToKw pos (keywordEach [] X.env))) := by rfl)
    (he : starEach (e :: es) X.env = (false, eval e X.env) :: starEach es X.env := by rfl) (hpl : (backTo pos (starEach es X.env)).any (·.1) = false := by rfl) :
    SE X T C W (.Call (.Subscript (.List ns lp) i sp) (e :: es) [] pos) (.pick fs ii is) := by
  refine ⟨fun pins s σ H Q I h => ?_⟩
  obtain ⟨env, m, rfl, er, oo⟩ := h
  refine PyProof.Rows.Call_ (thn (pick_run (R := fun x env S => match x with | .d (.int k) => (match atI fs k with | some f => (vals (sems C is) env S).bind fun vs S => C f vs S | none => .er) | _ => .er) hf hF hi I er oo
    (fun y H1 => ∃ (m1 : Mem X.prog X.w T) (f : Nat) (ad : Addr), m1.H = H1 ∧ y = .ref ad ∧ EnvR X.K m1 env σ ∧ FnE X.prog X.w X.K X.mg X.base T C lv f ad ∧ OutG (VR X.K) W σ m1 ((vals (sems C is) env m1.S).bind fun vs S => C f vs S) Q) ?_ ?_ hs hlen) fun u s1 ⟨y, H1, I1, ry, m1, f, ad, e1, e2, er1, F, o1⟩ => ?_) ht
  · intro m1 j f ad f1 er1 hj F o1
    simp only [hj] at o1
    exact ⟨m1, f, ad, rfl, rfl, er1, F, o1⟩
  · intro x env S hx
    split
    · rename_i k
      split
      · rename_i f hf'
        exact absurd hf' (hx k f rfl)
      · rfl
    · rfl
  · subst e1 e2
    cases ry
    obtain ⟨fd, ps, ok, hb⟩ := F.ok
    have t1 : tA X.prog X.w T X.K (vals (sems C is)) W σ m1.H fun ys H2 => ∃ (m2 : Mem X.prog X.w T) (us : List Vl), m2.H = H2 ∧ VRs X.K m2 us ys ∧ OutG (VR X.K) W σ m2 (C f us m2.S) Q := by
      refine ⟨env, m1, rfl, er1, (OutG.bind (R := VRs X.K) (r := vals (sems C is) env m1.S) o1).imp ?_⟩
      rintro ys H2 ⟨us, m2, f2, rfl, hv, q2⟩
      exact ⟨m2, us, rfl, hv, q2⟩
    refine PySem.W.callWith_K (h₀ := X.base) I1.ok.mod.kin F.kp (thn (ha.run pos pins s1 σ m1.H _ I1 t1) fun us s2 ⟨vs, H2, I2, r, m2, as, e3, hv, q⟩ => ⟨I2.kIn, ?_⟩) he hpl
    subst e3
    refine run_fnSD (E := WE W) (dvs := []) (ds := []) ok hr hb .nil (passAt tk σ) I2 r ?_
    rw [List.append_nil]
    exact ⟨m2, as, rfl, hv, OutG.cv (W' := fun c d _ H => WE W σ c d H) (σ' := []) q fun c d H h => h⟩
/-! ### d.get -/
def tyD (X : Cx) (T : Ct) : V → Hp → Prop := fun x H => ∃ (m : Mem X.prog X.w T) (a : Addr) (kvs : List (D × D)), m.H = H ∧ x = .ref a ∧ DicAt m a kvs
theorem tyD_ok : TyP X "dict" (tyD X T) := by
  rintro pins s σ H x v I r ⟨m, a, kvs, rfl, rfl, da⟩
  cases r
  obtain ⟨hs, o, es, ep, ks, ho, hx, _⟩ := dic_keys I da
  exact ⟨⟨_, ho, hx.1⟩, fun b eb => by cases eb; exact ⟨_, ho, hx.2.1⟩⟩
theorem m_get (hu : X.A.units + 65 < cLine) : MtR X "dict.get" (rM X T .get) := by
  intro pins s σ H x xs v us Q I rx rxs h
  obtain ⟨m, a, as, W, σ0, rfl, va, vs, o⟩ := h
  replace o : OutG (VR X.K) W σ0 m (ofO m.S (getOrD m.S a as)) Q := o
  have o := OutD.of o
  unfold getOrD at o
  split at o
  · rename_i k z
    split at o
    · rename_i kvs e
      split at o
      · rename_i hk
        obtain ⟨p, rfl, da⟩ := dic_of va e
        cases rx
        cases vs with
        | cons v1 vs => cases vs with
          | cons v2 vs => cases vs with
            | nil => cases rxs with
              | cons r1 rxs => cases rxs with
                | cons r2 rxs => cases rxs with
                  | nil => exact dic_getOr (by omega) I da hk v1 r1 v2 r2 fun y w' s' I' ry dy => ⟨y, m.H, I', ry, o.get dy⟩
      · exact o.elim
    · exact o.elim
  · exact o.elim
theorem s_get (hu : X.A.units + 65 < cLine) (ho : SE X T C W o io) (ha : SA X T C W (e :: es) is)
    (hbase : attributeBase o "get" X.env (eval o X.env) = eval o X.env := by rfl)
    (hfew : ((backTo cpos (starEach (e :: es) X.env)).all (fun x => !x.1) && (backToKw cpos (keywordEach [] X.env)).all (fun x => x.1.isSome)
      && decide ((e :: es).length + ([] : List Keyword).length + (if ([] : List Keyword).isEmpty then 0 else 1) < 30)) = true := by rfl)
    (hline : (apos.endLine == cpos.line) = true := by rfl) (hs : starEach (e :: es) X.env = (false, eval e X.env) :: starEach es X.env := by rfl) (hplain : (backTo cpos (starEach es X.env)).any (·.1) = false := by rfl) :
    SE X T C W (.Call (.Attribute o "get" apos) (e :: es) [] cpos) (.mth .get io is) := by
  refine imE (pe_bmG (tyD_ok (T := T)) PySem.F.plainAttrs_dict PySem.F.slot_dict_get PySem.F.type_dict_get (m_get (T := T) hu) ho ha hbase hfew hline hs hplain) fun σ H Q h => ?_
  refine mth_out (fun m u y hv hk => ?_) h
  have hk : (dicOf m.S u).isSome = true := by cases u <;> exact hk
  cases e : dicOf m.S u with
  | none => rw [e] at hk; cases hk
  | some kvs =>
    obtain ⟨a, rfl, da⟩ := dic_of hv e
    exact ⟨m, a, kvs, rfl, rfl, da⟩
/-! ### xs[i] op= e -/
theorem get_list : PGet X (fun o i H Q => ∃ (m : Mem X.prog X.w T) (n : Nat) (p : Addr × Addr) (ds : List D) (j : Int) (d : D), m.H = H ∧ o = .ref p.1 ∧ i = .int j ∧ m.φ[n]? = some p ∧ m.S[n]? = some (.lst ds) ∧ 0 ≤ j ∧ ds[j.toNat]? = some d ∧ ∀ z, Dr X.prog X.w T m.M m.H d z → Q z m.H) := by
  intro pins s σ H o i ov iv Q I ro ri h
  obtain ⟨m, n, p, ds, j, d, rfl, rfl, rfl, hp, hS, h0, hd, q⟩ := h
  cases ro
  obtain ⟨t, rfl⟩ := ri
  obtain ⟨xs, h1, r1⟩ := m.obj n p _ hp hS
  obtain ⟨its, rv, pl, hz⟩ := I.list (SqL.of h1)
  obtain ⟨z, hz1, dz⟩ := r1.get hd
  obtain ⟨w, hw, rw'⟩ := rv.get hz1
  have hl := rv.length
  have hjl : j.toNat < its.length := (List.getElem?_eq_some_iff.mp hw).1
  have hn := line63
  exact wpAny_getItem_list pl.isList h0 (by omega) (by simpa using hw) ⟨z, m.H, I, rw', q z dz⟩
theorem t_augS (op : BOp) (hu : X.A.units + 65 < cLine) (ho : SE X T C W o io) (hi : SE X T C W i ii) (he : SE X T C W e ie) (hop : op ≠ .pow := by intro h; cases h)
    (ha : ∀ ov iv new, augStore i ov iv new = (do holding [new, ov, iv] (setItem ov iv new); release [new, ov, iv] []; pure .next) := by intros; rfl) : SS X T C W fu (.AugAssign (.Subscript o i tpos) (augOp op) e pos) (.augS io ii op ie) := by
  refine imS (ps_augS ho hi (get_list (T := T)) he (aug_of (T := T) op hop) (x_set (T := T) hu) ha) fun D σ H h => ?_
  obtain ⟨env, m, rfl, er, out⟩ := h
  refine ⟨env, m, rfl, er, (OutS.bindS (R := VR X.K) (r := evalE C io env m.S) er out).imp ?_⟩
  rintro x H1 ⟨xa, m1, f1, rfl, vx, o1⟩
  refine ⟨env, m1, rfl, er.mono f1, (OutS.bindS (R := VR X.K) (r := evalE C ii env m1.S) (er.mono f1) o1).imp ?_⟩
  rintro y H2 ⟨ya, m2, f2, rfl, vy, o2⟩
  have vx := vx.mono f2
  unfold augAt at o2
  split at o2
  · rename_i n j _
    obtain ⟨p, hp, rfl⟩ := vx
    cases Dr.int_inv vy
    split at o2
    · rename_i ds hS
      split at o2
      · rename_i h0
        have h0 : 0 ≤ j := of_decide_eq_true h0
        split at o2
        · rename_i d hd
          refine ⟨m2, n, p, ds, j, d, rfl, rfl, rfl, hp, hS, h0, hd, fun z dz => ?_⟩
          have er2 := (er.mono f1).mono f2
          refine ⟨env, m2, rfl, er2, (OutS.bindS (R := VR X.K) (r := evalE C ie env m2.S) er2 o2).imp ?_⟩
          rintro w H3 ⟨wa, m3, f3, rfl, vw, o3⟩
          unfold augOk at o3
          split at o3
          · rename_i zi hz
            refine ⟨m3, .d d, wa, zi, rfl, Dr.mono f3.keep _ _ dz, vw, hz, ?_⟩
            unfold augPut at o3
            split at o3
            · rename_i ds' hS'
              split at o3
              · rename_i hj
                have hj : j.toNat < ds'.length := of_decide_eq_true hj
                refine ⟨m3, .r n, .d (.int j), .d (.int zi), env, σ, rfl, ⟨p, f3.pre _ _ hp, rfl⟩, .int j, .int zi, ?_⟩
                have hset : setSub (.r n) (.d (.int j)) (.d (.int zi)) env m3.S = .ok env (m3.S.set n (.lst (ds'.set j.toNat (.int zi)))) := by
                  unfold setSub
                  simp only [hS']
                  rw [if_pos (decide_eq_true ⟨h0, by omega⟩)]
                rw [hset]
                intro _ m4 f4 e4 _
                exact o3 σ m4 f4 e4 ((er2.mono f3).mono f4)
              · exact o3.elim
            · exact o3.elim
          · exact o3.elim
        · exact o2.elim
      · exact o2.elim
    · exact o2.elim
  · exact o2.elim
/-! ### list(x) that will change -/
theorem s_lnew (hg : Gl X "list") (hm : X.mg "list" = none) (ha : SE X T C W a ia) (he : starEach [a] X.env = (false, eval a X.env) :: starEach [] X.env := by rfl) : SE X T C W (.Call (.Name "list" p) [a] [] pos) (.lnew ia) := by
  refine imE (pe_callTy call_list_of hg hm PyProof.Rows.boot_list (s_acons ha s_anil he) (by decide) (by decide) he rfl) fun σ H Q h => ?_
  obtain ⟨env, m, rfl, er, o⟩ := h
  refine ⟨env, m, rfl, er, (bind1A (md := sem C ia) (f := fun u S => lnewV u S) o).imp ?_⟩
  rintro ys H1 ⟨y, u, m1, rfl, f1, rfl, hv, q1⟩
  unfold lnewV at q1
  cases e : seqOf m1.S u with
  | none => rw [e] at q1; exact q1.elim
  | some ds =>
    rw [e] at q1
    obtain ⟨q, xs, rfl, h1, r1⟩ := seq_of hv e
    refine ⟨q, xs, rfl, h1.elim (fun h => .inl (SqL.of h)) (fun h => .inr (sqT h)), fun p hp => ?_⟩
    have k := upd_keep (o := .lst xs) hp
    have ob : ∀ M : Addr → Prop, (∀ x u, m1.H x = some u → ¬ m1.M x → ¬ M x) → ObR X.prog X.w T M (upd m1.H p (.lst xs)) p p (.lst ds) := fun M hM =>
      ⟨xs, upd_same, DrAll.mono (fun x u e n => ⟨k x u e, hM x u e n⟩) _ _ r1⟩
    have t : (upd m1.H p (.lst xs) p).isSome = true := by rw [upd_same]; rfl
    refine q1 (.ref p) (m1.push (.lst ds) p p _ hp hp k t t rfl ob) (m1.push_fut hp hp k t t rfl ob) rfl ⟨(p, p), ?_, rfl⟩
    show (m1.φ ++ [(p, p)])[m1.S.length]? = some (p, p)
    rw [← m1.len, List.getElem?_append_right (Nat.le_refl _)]
    simp
end
end Itp

set_option Elab.async false
set_option linter.all false
set_option autoImplicit false
set_option maxRecDepth 100000
set_option maxHeartbeats 4000000
/-! raise, try with any clauses, a caught exception's fields and class. -/
namespace Itp
open PySem L2 PySem.Spec PyProof.Rows
section
variable {X : Cx} {T : Ct} {C : CallF} {W : WX} {fu : Nat} {e : Expr} {es : List Expr} {ie : E} {is : List E} {x : Str} {p pos pos' : Pos}
/-! ### raise -/
/-- what the head says of an own exception class without __init__ -/
structure ExcF (K : PySem.W.Frag) (Ca : Addr) : Prop where
  ex : PySem.W.excIn K Ca He.veBase "ValueError.__new__" = true
  kp : PySem.W.keepIn K (.ref Ca) = true
  sb : PySem.W.subIn K (.ref Ca) (.type "BaseException") = some true
  ty : PySem.W.typeIn K (.ref Ca) = some (.type "type")
theorem pmk_own0 {Ca : Addr} (f : ExcF X.K Ca) (gC : X.mg x = some (.ref Ca)) (hg : Gl X x) (hdb : (x == ("__debug__" : Str)) = false := by decide) :
    PMk X (.Call (.Name x p) [] [] pos) (fun _ H Q => Q (.ref Ca) none H) := by
  intro pins s σ H Q I h
  refine wpAny_Call_Name_kw (ld_glob I hg gC ?_ hdb)
  refine PySem.W.callWith_K0 I.kIn f.kp ?_
  obtain ⟨bm, N, nm, qn, bs, hdct, sn, sub, ab, col, dd, k0, k1, k2, k3, k5, mN, hC, hN, hni, tl⟩ := exc_obj I.kIn f.ex
  exact wpAny_call_exc_subT PySem.F.excBase_ValueError tl hC hN hni (fun h' a hm => mk_of I hm (raises_own f.sb f.ty) h (I.hok.gone hm.new)) (Nat.zero_le _)
theorem t_rse0 {c : Nat} (f : ExcF X.K (T.ca c)) (hc : X.calm = true) (tk : Takes X W) (hg : Gl X x) (gC : X.mg x = some (.ref (T.ca c))) (hdb : (x == ("__debug__" : Str)) = false := by decide) :
    SS X T C W fu (.Raise (some (.Call (.Name x p) [] [] pos)) none pos') (.rse c []) :=
  imS (ps_raise hc tk (pmk_own0 f gC hg hdb)) fun D σ H ⟨env, m, eH, er, o⟩ => by
    subst eH
    exact o none σ m (Fut.refl m) rfl er (.inl ⟨rfl, rfl⟩)
/-- an own exception class whose __init__ stores its one argument -/
def spX (K : PySem.W.Frag) (f : Str) : Sp := fun vs H Q _ => ∃ (a Ca : Addr) (v : V), vs = [.ref a, v] ∧ OexC K Ca ∧ PySem.W.findIn K (.ref Ca) f = some none ∧ H a = some (exo a Ca none) ∧ ∀ dx, H dx = none → dx ≠ a → Q .non (upd (upd H dx (exd dx [(f, v)])) a (exo a Ca (some dx)))
structure XIn (P : Program) (w : World) (K : PySem.W.Frag) (mg : Str → Option Value) (base : Heap) (k : Nat) (Ca fI : Addr) (f : Str) : Prop where
  cls : OexC K Ca
  iC : PySem.W.findIn K (.ref Ca) "__init__" = some (some (.ref fI))
  tI : PySem.W.typeIn K (.ref fI) = some (.type "function")
  no : PySem.W.findIn K (.ref Ca) f = some none
  ok : ∃ (fd : FuncData) (ps : List Str), FnOk P w K mg base (L2.CX P w) k fI fd ps (spX K f) ∧ Binds K fd ps []
theorem XIn.mono {P : Program} {w : World} {K : PySem.W.Frag} {mg : Str → Option Value} {base : Heap} {j k : Nat} {Ca fI : Addr} {f : Str} (h : XIn P w K mg base j Ca fI f) (hk : j ≤ k) : XIn P w K mg base k Ca fI f := by
  obtain ⟨fd, ps, h1, h2⟩ := h.ok
  exact ⟨h.cls, h.iC, h.tI, h.no, fd, ps, h1.mono hk, h2⟩
theorem t_rse1 {c k : Nat} {fI : Addr} {f : Str} (F : XIn X.prog X.w X.K X.mg X.base k (T.ca c) fI f) (hr : Room (k + 1) X.A) (hf : T.cf c = [f]) (hc : X.calm = true) (tk : Takes X W) (hg : Gl X x) (gC : X.mg x = some (.ref (T.ca c))) (ha : SA X T C W [e] [ie])
    (hdb : (x == ("__debug__" : Str)) = false := by decide) (he : starEach (e :: []) X.env = (false, eval e X.env) :: starEach [] X.env := by rfl) (hpl : (backTo pos (starEach [] X.env)).any (·.1) = false := by rfl) :
    SS X T C W fu (.Raise (some (.Call (.Name x p) [e] [] pos)) none pos') (.rse c [ie]) := by
  obtain ⟨fd, ps, ok, hb⟩ := F.ok
  have hx : Passes (L2.CX X.prog X.w) X (fun _ _ _ => False) := fun pins σ H s er s' I cc => by
    obtain ⟨_, _, _, _, _, _, _, _, _, _, _, _, z⟩ := cc
    exact z.elim
  refine imS (ps_raise hc tk (pmk_oex (dvs := []) (ds := []) F.cls F.iC F.tI ok hr hb .nil hx hg gC ha hdb he hpl)) fun D σ H h => ?_
  obtain ⟨env, m, rfl, er, o⟩ := h
  refine ⟨env, m, rfl, er, (OutS.bindS (R := VRs X.K) (r := evalEs C [ie] env m.S) er o).imp ?_⟩
  rintro ys H1 ⟨us, m1, f1, rfl, hv, o1⟩
  replace o1 : OutS X.K W D m1 (match allDat us with | some ds => if Nat.beq ds.length 1 then .ex c ds env m1.S else .er | none => .er) := o1
  cases hd : allDat us with
  | none => rw [hd] at o1; exact o1.elim
  | some ds =>
    rw [hd] at o1
    replace o1 : OutS X.K W D m1 (if Nat.beq ds.length 1 then .ex c ds env m1.S else .er) := o1
    split at o1
    · rename_i hl
      have dr := hv.dat hd
      have hl : ds.length = 1 := Nat.eq_of_beq_eq_true hl
      cases dr with
      | nil => cases hl
      | @cons d ds' y ys' a r => cases r with
        | cons _ _ => simp at hl
        | nil =>
          refine ⟨by show 1 ≤ 1000; omega, fun z hz => ?_⟩
          refine ⟨z, T.ca c, y, rfl, F.cls, F.no, upd_same, fun dx hdx hne => ?_⟩
          have hdx1 : m1.H dx = none := by rwa [upd_ne hne] at hdx
          refine ⟨rfl, dx, [(f, y)], upd_same, by rw [upd_ne hne, upd_same], hdx1, ?_⟩
          have eH : upd (del (upd (upd (upd m1.H z (exo z (T.ca c) none)) dx (exd dx [(f, y)])) z (exo z (T.ca c) (some dx))) z) dx (.xd [(f, y)]) = upd m1.H dx (.xd [(f, y)]) := by
            funext b
            by_cases h1 : b = dx
            · subst h1; rw [upd_same, upd_same]
            · rw [upd_ne h1, upd_ne h1]
              by_cases h2 : b = z
              · subst h2; rw [del_same, hz]
              · rw [del_ne h2, upd_ne h2, upd_ne h1, upd_ne h2]
          rw [eH]
          refine o1 (some dx) σ (m1.add dx (.xd [(f, y)]) hdx1) (m1.add_fut hdx1) rfl ((er.mono f1).mono (m1.add_fut hdx1)) (.inr ⟨dx, [(f, y)], rfl, upd_same, m1.add_new hdx1, ?_, ?_⟩)
          · rw [hf]; rfl
          · exact .cons (Dr.add hdx1 a) .nil
    · exact o1.elim
end
end Itp

set_option Elab.async false
set_option linter.all false
set_option autoImplicit false
set_option maxRecDepth 100000
set_option maxHeartbeats 4000000
/-! try: any clauses, with or without a name. -/
namespace Itp
open PySem L2 PySem.Spec PyProof.Rows

theorem xo_own {a x : Addr} {oe : Obj} : xo a oe ≠ .own x := fun z => by have z : HO.ext _ = HO.own x := z; cases z
theorem xo_tup {a : Addr} {oe : Obj} {xs : List V} : xo a oe ≠ .tup xs := fun z => by have z : HO.ext _ = HO.tup xs := z; cases z
theorem xo_ok {P : Program} {w : World} {H : Hp} {h : Heap} {a : Addr} {oe : Obj} (ha : h.get? a = some oe) : ObjOk P w H h a (xo a oe) := ⟨ha, ⟨_, ha⟩, fun _ _ z k => k _ z⟩
theorem xo_at {P : Program} {w : World} {H : Hp} {h : Heap} {a : Addr} {oe : Obj} (hok : HOk P w H h) (e : H a = some (xo a oe)) : h.get? a = some oe := by
  have q : ObjOk P w H h a (.ext fun h => h.get? a = some oe) := hok a _ e
  exact q.1
section
variable {X : Cx} {pins : List (Addr × Obj)} {σ : L2.St} {H : Hp} {s0 s1 : Shared} {B : Heap} {a : Addr} {oe : Obj}
/-- on the ground again, the exception's object known -/
theorem land_xo (I : L2.Inv X pins σ H s0) (nb : ∀ b o, s0.heap.get? b = some o → b ∉ frs X.stack → B.get? b = some o) (st : B.StaysIn s1.heap) (up : s0.heap.UpToSlots s1.heap) (os : s1.os = s0.os) (ag : AllBare s1.gens)
    (na : H a = none) (n0 : s0.heap.get? a = none) (ha : s1.heap.get? a = some oe) : L2.Inv X pins σ (upd H a (xo a oe)) s1 := by
  have J := I.landed nb st up os ag
  have nz : ∀ {b : Addr} {o : Obj}, s0.heap.get? b = some o → b ≠ a := fun {b o} q z => by rw [z, n0] at q; cases q
  have slots : ∀ b ∈ frs X.stack, ∀ o, s0.heap.get? b = some o → ∃ sl, s1.heap.get? b = some { o with slots := sl } := fun b hb o q => by
    obtain ⟨_, o2, q2, hd⟩ := I.stack.mem hb
    rw [q] at q2
    cases q2
    exact up b o q hd
  refine I.call' (ch := []) os ⟨fun b o q _ hb _ => st b o (nb b o q hb), fun b o q _ hb _ => slots b hb o q, fun b o q n _ => by rw [upd_ne (nz q)]; exact n, fun b o q _ => ?_, fun b xs q => ?_, fun b o v q => ?_, fun b ps q => ⟨#[], ?_⟩⟩ ?_ ag (fun _ z => nomatch z)
  · by_cases hb : b ∈ frs X.stack
    · obtain ⟨sl, q2⟩ := slots b hb o q
      exact ⟨_, q2⟩
    · exact ⟨o, st b o (nb b o q hb)⟩
  · rw [upd_ne (ne_of_none q na)]; exact q
  · rw [upd_ne (ne_of_none q na)]; exact q
  · rw [upd_ne (ne_of_none q na), q]; simp
  · intro b o q
    by_cases hb : b = a
    · subst hb
      rw [upd_same] at q
      cases q
      exact xo_ok ha
    · rw [upd_ne hb] at q
      exact (J.hok b o q).stay (fun _ _ _ r => r) (fun c hc => by rw [upd_ne (ne_of_none hc na)]; exact hc) (fun c xs hc => by rw [upd_ne (ne_of_none hc na)]; exact hc)
theorem in_suite (I : L2.Inv X pins σ H s1) (z : Addr) : L2.Inv (X.suite z (X.pn ++ pins)) [] σ H s1 :=
  ⟨I.ok.suite _ _, I.os, I.bare, I.base, I.loc, I.cell, I.free, I.freeC, fun q hq => I.pin q (by rw [List.append_nil] at hq; exact hq), I.hok, I.len⟩
theorem out_suite {z : Addr} {pn : List (Addr × Obj)} (ok : X.Ok) (I : L2.Inv (X.suite z (X.pn ++ pins)) pn σ H s1) : L2.Inv X pins σ H s1 :=
  ⟨ok, I.os, I.bare, I.base, I.loc, I.cell, I.free, I.freeC, fun q hq => I.pin q (List.mem_append_left _ hq), I.hok, I.len⟩
end
/-! ### the clauses -/
def stIn (i : Option Nat) (a : Addr) (σ : L2.St) : L2.St := match i with
  | none => σ
  | some k => σ.set k (some (.ref a))
def stOut (i : Option Nat) (σ : L2.St) : L2.St := match i with
  | none => σ
  | some k => σ.set k none
def endsI (i : Option Nat) (D : Ends) : Ends := { nx := fun σ H => D.nx (stOut i σ) H, rt := D.rt, bk := fun σ H => D.bk (stOut i σ) H, ct := fun σ H => D.ct (stOut i σ) H }
structure Cls1 where
  c : Value
  i : Option Nat
  ts : TS
/-- what the clauses wish -/
def wMix (K : PySem.W.Frag) (Wo : WX) (D : Ends) : List Cls1 → WX
  | [] => Wo
  | q :: r => fun cls d σ H => ∃ b, PySem.W.exmOne K cls q.c = some b ∧ (b = true → ∀ a oe, H a = none → oe.cls = cls → oe.dict = d → (∃ vs, oe.data = .fields vs) → q.ts (endsI q.i D) (stIn q.i a σ) (upd H a (xo a oe))) ∧ (b = false → wMix K Wo D r cls d σ H)
def NameOf (X : Cx) : Option Nat → Option Str → Prop
  | none, none => True
  | some k, some n => X.N[k]? = some n ∧ X.env.kindOf n = some .local
  | _, _ => False
inductive Clauses (X : Cx) : List ExceptHandler → List Cls1 → Prop
  | nil : Clauses X [] []
  | cons {x : Str} {c : Value} {i : Option Nat} {nm : Option Str} {ts : TS} {st : Stmt} {sts : List Stmt} {np p1 : Pos} {hds : List ExceptHandler} {l : List Cls1} (hc : Names X x c) (hi : NameOf X i nm) (hs : ∀ (a : Addr) (pn : List (Addr × Obj)), PSs (X.suite a pn) (st :: sts) ts) (r : Clauses X hds l) :
      Clauses X (.ExceptHandler (some (.Name x np)) nm (st :: sts) p1 :: hds) (⟨c, i, ts⟩ :: l)
section
variable {X : Cx} {body : List Stmt} {h0 : ExceptHandler} {hds : List ExceptHandler} {l : List Cls1} {pos : Pos} {tb : WX → TS} {Wo : WX}
theorem ps_try_mix (hst : X.stack = X.env :: X.outer) (hfr0 : X.env.frame = some X.env.locals) (hN : X.N.Nodup) (tk : Takes X Wo)
    (hbody : ∀ (V : WX) (pn : List (Addr × Obj)) (xe : Value → Shared → Prop), Takes (X.tr pn xe) V → PassesOwn (model X.prog X.w) X.A X.env xe → PSs (X.tr pn xe) body (tb V))
    (hcl : Clauses X (h0 :: hds) l) : PS X (.Try body (h0 :: hds) [] [] pos) (fun D σ H => tb (wMix X.K Wo D l) D σ H) := by
  refine ⟨fun pins s σ H D I rd => ?_⟩
  have ok := I.ok
  have frames : X.A.frames = some (X.env :: X.outer) := by rw [ok.frames, hst]
  refine wpAny_Try_except ?_
  let air : Value → Shared → Prop := fun ev z1 => wpAny (model X.prog X.w) X.A (noteFrame ev X.env) (fun _ z2 => wpAny (model X.prog X.w) X.A (setFlight ev none) (fun _ z3 => wpAny (model X.prog X.w) X.A (handleBy ev X.env (h0 :: hds)) (SP X pins D) X.xe z3) X.xe z2) X.xe z1
  have caught : Takes (X.tr (X.pn ++ pins) air) (wMix X.K Wo D l) := by
    intro ev z' xx
    obtain ⟨a, B, sI, pins', σ', H', cls, d, rfl, J', nb, up, sky, na, os, ag, wish⟩ := xx
    have J : L2.Inv X pins σ' H' sI := J'.ofTry ok
    have sky2 : Sky B (X.env :: X.outer) a (Zc cls d) X.env.locals z'.heap := by rw [← hst]; exact sky
    show wpAny (model X.prog X.w) X.A (noteFrame (.ref a) X.env) _ _ _
    refine Sky.land Zc.steady frames hfr0 sky2 fun g3 fl3 up3 => ?_
    have J3 : L2.Inv X pins σ' H' { z' with heap := g3 } := J.landed nb fl3.1 (up.trans up3) os ag
    obtain ⟨o3, v3, e3, q3, d3⟩ := fl3.there
    have away : a ∉ frs (X.env :: X.outer) := fun hm => by
      obtain ⟨_, o2, e2, no⟩ := fl3.2.2.1.mem hm
      rw [e3] at e2
      cases e2
      exact no _ d3
    have n0 : sI.heap.get? a = none := by
      cases hq : sI.heap.get? a with
      | none => rfl
      | some o =>
        have z := nb a o hq (by rw [hst]; exact away)
        rw [fl3.2.1] at z
        cases z
    have all : ∀ {hs2 : List ExceptHandler} {l2 : List Cls1}, Clauses X hs2 l2 → wMix X.K Wo D l2 cls d σ' H' → wpAny (model X.prog X.w) X.A (handleBy (.ref a) X.env hs2) (SP X pins D) X.xe { z' with heap := g3 } := by
      intro hs2 l2 ck
      induction ck with
      | nil =>
        intro wsh
        refine wpAny_handleBy_nil ?_
        obtain ⟨b1, b2, b3, o4, v4, tb4, oT, t4, e4, q4, d4, h41, _⟩ := id fl3
        unfold PySem.passOn
        refine wpAny_bind (wpAny_field e4 d4 h41 ?_)
        rw [if_neg (show ¬ ((Value.ref tb4 == Value.none) = true) by simp)]
        have away2 : wpAny (model X.prog X.w) X.A (setFlight (.ref a) X.env.frame) (fun _ y4 => wpAny (model X.prog X.w) X.A (throw (.ref a) : Sem Flow) (SP X pins D) X.xe y4) X.xe { z' with heap := g3 } := by
          rw [hfr0]
          refine HandSPX.setFlight_upZ fl3 fun g4 hd4 up4 => wpAny_throw (tk _ _ ⟨a, B, sI, pins, σ', H', cls, d, rfl, J, nb, (up.trans up3).trans up4, .inr (.inr ?_), na, os, ag, wsh⟩)
          rw [hst]
          exact hd4
        first
          | exact wpAny_bind (wpAny_pure (wpAny_bind away2))
          | exact wpAny_bind away2
      | @cons x c i nm ts st sts np p1 hds2 l2 hc hi hs r ih =>
        intro wsh
        obtain ⟨b, eb, yes, no⟩ := wsh
        refine wpAny_handleBy_cons (codeAny_handlers_test ?_) (by intro q; cases q)
        have K3 := in_suite J3 a
        have look : PySem.W.Looks (model X.prog X.w) g3 (typeOf (.ref a)) cls := fun A Q E y k q => wpAny_typeOf_ref (k _ _ e3) (by rw [q3.1]; exact q)
        have mt := PySem.W.exm_one (M := model X.prog X.w) J3.kIn look eb
        have nameIs : ∀ {Q : Value → Shared → Prop} {E : Value → Shared → Prop}, Q c { z' with heap := g3 } → wpAny (model X.prog X.w) (X.A.mark (some (.ref a))) (eval (.Name x np) X.env) Q E { z' with heap := g3 } := fun {Q E} q => by
          obtain ⟨hg, hdbg, hm | ⟨hm, hv, hnn⟩⟩ := hc
          · exact ld_glob (X := X.suite a (X.pn ++ pins)) K3 hg hm q hdbg
          · exact ld_blt (X := X.suite a (X.pn ++ pins)) K3 hg hm hv q hnn hdbg
        refine nameIs (mt.here ?_)
        cases b with
        | false =>
          show wpAny _ X.A (handleBy (.ref a) X.env hds2) _ _ _
          exact ih (no rfl)
        | true =>
          cases i with
          | none =>
            cases nm with
            | some n => exact hi.elim
            | none =>
              refine codeAny_handlers_suite (HandSPX.lands_againZ fl3 fun g4 fl4 up4 => ?_)
              obtain ⟨o4, v4, e4, q4, d4⟩ := fl4.there
              have J4 : L2.Inv X pins σ' (upd H' a (xo a o4)) { z' with heap := g4 } := land_xo J nb fl4.1 ((up.trans up3).trans up4) os ag na n0 e4
              refine wpAny_mono ((hs a (X.pn ++ pins)).run [] _ _ _ _ (in_suite J4 a) (yes rfl a o4 na q4.1 q4.2 ⟨_, d4⟩)) (fun fw s6 hsp => ?_) (fun _ _ z => z.elim)
              cases fw with
              | next => obtain ⟨σ6, H6, S6, q6⟩ := hsp; exact ⟨_, _, out_suite ok S6, q6⟩
              | brk => obtain ⟨σ6, H6, S6, q6⟩ := hsp; exact ⟨_, _, out_suite ok S6, q6⟩
              | cont => obtain ⟨σ6, H6, S6, q6⟩ := hsp; exact ⟨_, _, out_suite ok S6, q6⟩
              | ret u => obtain ⟨v6, σ6, H6, S6, r6, q6⟩ := hsp; exact ⟨_, _, _, out_suite ok S6, r6, q6⟩
          | some k =>
            cases nm with
            | none => exact hi.elim
            | some n =>
              obtain ⟨hk, hln⟩ := hi
              refine codeAny_handlers_suite_as (HandSPX.lands_againZ fl3 fun g4 fl4 up4 => ?_)
              obtain ⟨o4, v4, e4, q4, d4⟩ := fl4.there
              have J4 : L2.Inv X pins σ' (upd H' a (xo a o4)) { z' with heap := g4 } := land_xo J nb fl4.1 ((up.trans up3).trans up4) os ag na n0 e4
              refine store_ok (X := X.suite a (X.pn ++ pins)) (v := .ref a) (in_suite J4 a) hN hk (.inl hln) rfl (fun s5 S5 => ?_) (.inr hln)
              refine wpAny_mono ((hs a (X.pn ++ pins)).run [] s5 _ _ _ S5 (yes rfl a o4 na q4.1 q4.2 ⟨_, d4⟩)) (fun fw s6 hsp => ?_) (fun _ _ z => z.elim)
              have gone : ∀ {σ6 : L2.St} {H6 : Hp} {Q : Shared → Prop}, L2.Inv (X.suite a (X.pn ++ pins)) [] σ6 H6 s6 → (∀ s7, L2.Inv X pins (σ6.set k none) H6 s7 → Q s7) → wpAny (model X.prog X.w) X.A (do bindName X.env n .none; unbindBehindTheSuite X.env n p1) (fun _ s7 => Q s7) X.xe s6 :=
                fun {σ6 H6 Q} S6 hq => gone_ok (out_suite ok S6) hN hk hln hq
              cases fw with
              | next => obtain ⟨σ6, H6, S6, q6⟩ := hsp; exact gone S6 fun s7 J7 => ⟨_, _, J7, q6⟩
              | brk => obtain ⟨σ6, H6, S6, q6⟩ := hsp; exact gone S6 fun s7 J7 => ⟨_, _, J7, q6⟩
              | cont => obtain ⟨σ6, H6, S6, q6⟩ := hsp; exact gone S6 fun s7 J7 => ⟨_, _, J7, q6⟩
              | ret u => obtain ⟨v6, σ6, H6, S6, r6, q6⟩ := hsp; exact gone S6 fun s7 J7 => ⟨_, _, _, J7, r6, q6⟩
    exact all hcl wish
  refine wpAny_mono ((hbody (wMix X.K Wo D l) (X.pn ++ pins) air caught PassesOwn.looking).run [] s σ H D (I.toTry _) rd) (fun fw s1 hsp => ?_) (fun _ _ z => z)
  cases fw with
  | next => obtain ⟨σ', H', J', q⟩ := hsp; exact wpAny_execs_nil ⟨σ', H', J'.ofTry ok, q⟩
  | brk => obtain ⟨σ', H', J', q⟩ := hsp; exact ⟨σ', H', J'.ofTry ok, q⟩
  | cont => obtain ⟨σ', H', J', q⟩ := hsp; exact ⟨σ', H', J'.ofTry ok, q⟩
  | ret u => obtain ⟨v, σ', H', J', r, q⟩ := hsp; exact ⟨v, σ', H', J'.ofTry ok, r, q⟩
end
end Itp

set_option Elab.async false
set_option linter.all false
set_option autoImplicit false
set_option maxRecDepth 100000
set_option maxHeartbeats 4000000
/-! try by the interpreter; a caught exception's fields and class. -/
namespace Itp
open PySem L2
theorem EnvR.unset {P : Program} {w : World} {T : Ct} {K : PySem.W.Frag} {m : Mem P w T} {env : Ev} {σ : L2.St} (h : EnvR K m env σ) (k : Nat) : EnvR K m (env.set k none) (σ.set k none) := by
  refine ⟨by simp [h.1], fun j v e => ?_⟩
  by_cases hj : k = j
  · subst hj
    have hk : k < env.length := by
      have := (List.getElem?_eq_some_iff.mp e).1
      simpa using this
    rw [List.getElem?_set_self hk] at e
    cases e
  · rw [List.getElem?_set_ne hj] at e
    obtain ⟨y, h1, h2⟩ := h.2 j v e
    exact ⟨y, by rw [List.getElem?_set_ne hj]; exact h1, h2⟩
theorem EnvR.out {P : Program} {w : World} {T : Ct} {K : PySem.W.Frag} {m : Mem P w T} {env : Ev} {σ : L2.St} (h : EnvR K m env σ) (i : Option Nat) : EnvR K m (hdOut i env) (stOut i σ) := by
  cases i with
  | none => exact h
  | some k => exact h.unset k
section
variable {X : Cx} {T : Ct} {C : CallF} {W : WX} {fu : Nat} {a b e o : Expr} {ia io : E} {x : Str} {p pos : Pos} {st : Stmt} {sts body : List Stmt} {ib : List Sm}
/-- the clauses of a try -/
inductive SH (X : Cx) (T : Ct) (C : CallF) (fu : Nat) : List ExceptHandler → List Sm → Prop
  | nil : SH X T C fu [] []
  | cons {x : Str} {c : Value} {tbl : List (Nat × Bool)} {i : Option Nat} {nm : Option Str} {st : Stmt} {sts : List Stmt} {b : List Sm} {np p1 : Pos} {hds : List ExceptHandler} {ihs : List Sm} (hc : Names X x c) (ht : ∀ q ∈ tbl, PySem.W.exmOne X.K (.ref (T.ca q.1)) c = some q.2) (hi : NameOf X i nm)
      (hs : ∀ (a : Addr) (pn : List (Addr × Obj)), SSs (X.suite a pn) T C WF fu (st :: sts) b) (r : SH X T C fu hds ihs) : SH X T C fu (.ExceptHandler (some (.Name x np)) nm (st :: sts) p1 :: hds) (.hd tbl i b :: ihs)
theorem look_mem {β : Type} : ∀ {tbl : List (Nat × β)} {c : Nat} {v : β}, tbl.lookup c = some v → (c, v) ∈ tbl
  | [], _, _, h => by cases h
  | (k, u) :: r, c, v, h => by
    rw [List.lookup_cons] at h
    split at h
    · rename_i hk
      cases h
      rw [beq_iff_eq.mp hk]
      exact List.mem_cons_self
    · exact List.mem_cons_of_mem _ (look_mem h)
theorem SH.read {hds : List ExceptHandler} {ihs : List Sm} (h : SH X T C fu hds ihs) : ∃ l : List Cls1, Clauses X hds l ∧ ∀ (Wo : WX) (D : Ends) (m : Mem X.prog X.w T) (c : Nat) (fs : List PyData) (env : Ev) (S : Sto), OutS X.K Wo D m (hdSs C fu ihs c fs env S) →
    OutS X.K (wMix X.K Wo D l) D m (.ex c fs env S) := by
  induction h with
  | nil => exact ⟨[], .nil, fun Wo D m c fs env S h => h⟩
  | @cons x c0 tbl i nm st sts b np p1 hds ihs hc ht hi hs r ih =>
    obtain ⟨l, cl, rd⟩ := ih
    refine ⟨⟨c0, i, tS X.prog X.w T X.K (execSs C fu b) WF⟩ :: l, .cons hc hi hs cl, fun Wo D m c fs env S o => ?_⟩
    intro d σ m' f' e' er ex
    replace o : OutS X.K Wo D m (match tbl.lookup c with | some true => hdEnd i (execSs C fu b (hdIn i c fs env) S) | some false => hdSs C fu ihs c fs env S | none => .er) := o
    cases hl : tbl.lookup c with
    | none => rw [hl] at o; exact o.elim
    | some bb =>
      rw [hl] at o
      have em := ht _ (look_mem hl)
      refine ⟨bb, em, fun hb => ?_, fun hb => ?_⟩
      · subst hb
        intro a oe na h1 h2 h3
        let m2 : Mem X.prog X.w T := m'.add a (xo a oe) na
        have f2 : Fut m' m2 := m'.add_fut na
        have vx : VR X.K m2 (.x c fs) (.ref a) := ⟨a, rfl, oe, d, upd_same, m'.add_new na, h1, h2, h3, ex.mono f2⟩
        have er2 : EnvR X.K m2 (hdIn i c fs env) (stIn i a σ) := by
          cases i with
          | none => exact er.mono f2
          | some k => exact (er.mono f2).set vx
        refine ⟨hdIn i c fs env, m2, rfl, er2, ?_⟩
        have eS : m2.S = S := e'
        rw [eS]
        replace o : OutS X.K Wo D m (hdEnd i (execSs C fu b (hdIn i c fs env) S)) := o
        cases hr : execSs C fu b (hdIn i c fs env) S with
        | nx env2 S2 => rw [hr] at o; exact fun σ3 m3 f3 e3 er3 => o _ m3 ((f'.trans f2).trans f3) e3 (er3.out i)
        | bk env2 S2 => rw [hr] at o; exact fun σ3 m3 f3 e3 er3 => o _ m3 ((f'.trans f2).trans f3) e3 (er3.out i)
        | ct env2 S2 => rw [hr] at o; exact fun σ3 m3 f3 e3 er3 => o _ m3 ((f'.trans f2).trans f3) e3 (er3.out i)
        | rt v S2 => rw [hr] at o; exact fun y m3 f3 e3 hy => o y m3 ((f'.trans f2).trans f3) e3 hy
        | ex c2 fs2 env2 S2 => rw [hr] at o; exact o.elim
        | er => rw [hr] at o; exact o.elim
      · subst hb
        exact rd Wo D m c fs env S o d σ m' f' e' er ex
theorem t_try {h0 : ExceptHandler} {hds : List ExceptHandler} {ihs : List Sm} (hst : X.stack = X.env :: X.outer) (hfr : X.env.frame = some X.env.locals) (hN : X.N.Nodup) (tk : Takes X W)
    (hb : ∀ (V : WX) (pn : List (Addr × Obj)) (xe : Value → Shared → Prop), Takes (X.tr pn xe) V → PassesOwn (model X.prog X.w) X.A X.env xe → SSs (X.tr pn xe) T C V fu body ib) (hh : SH X T C fu (h0 :: hds) ihs) :
    SS X T C W fu (.Try body (h0 :: hds) [] [] pos) (.try_ ib ihs) := by
  obtain ⟨l, cl, rd⟩ := hh.read
  refine imS (ps_try_mix (tb := fun V => tS X.prog X.w T X.K (execSs C fu ib) V) hst hfr hN tk hb cl) fun D σ H h => ?_
  obtain ⟨env, m, rfl, er, o⟩ := h
  refine ⟨env, m, rfl, er, ?_⟩
  replace o : OutS X.K W D m (tryEx (execSs C fu ib env m.S) (hdSs C fu ihs)) := o
  cases hr : execSs C fu ib env m.S with
  | nx env2 S2 => rw [hr] at o; exact o
  | bk env2 S2 => rw [hr] at o; exact o
  | ct env2 S2 => rw [hr] at o; exact o
  | rt v S2 => rw [hr] at o; exact o
  | ex c fs env2 S2 => rw [hr] at o; exact rd W D m c fs env2 S2 o
  | er => rw [hr] at o; exact o
/-! ### e.f -/
theorem s_xfld {cs : List Nat} {ix : Nat} {f : Str} (hx : ∀ c ∈ cs, XfC X.K (T.ca c) ∧ PySem.W.findIn X.K (.ref (T.ca c)) f = some none ∧ nmIx f (T.cf c) ix = true) (ho : SE X T C W o io) (hb : attributeBase o f X.env (eval o X.env) = eval o X.env := by rfl) :
    SE X T C W (.Attribute o f pos) (.xfld cs ix f io) := by
  refine ⟨fun pins s σ H Q I h => ?_⟩
  obtain ⟨env, m, rfl, er, oo⟩ := h
  refine attr_of hb (thn (ho.run pins s σ m.H _ I ⟨env, m, rfl, er, OutG.bind (R := VR X.K) (R' := VR X.K) (r := (sem C io).v env m.S) oo⟩) fun u s1 hh => ?_)
  obtain ⟨y, H1, I1, ry, v, m1, f1, rfl, hv, o1⟩ := hh
  have o2 : OutD m1 (xfldD cs ix v) Q := OutD.of o1
  unfold xfldD at o2
  split at o2
  · rename_i c fs
    split at o2
    · rename_i hc
      obtain ⟨a, rfl, oe, d, h1, n1, h2, h3, ⟨vs, h4⟩, h5⟩ := hv
      obtain rfl : u = Value.ref a := ry
      obtain ⟨xf, no, nm⟩ := hx c (List.contains_iff_mem.mp hc)
      cases hd : fs[ix]? with
      | none => rw [hd] at o2; exact o2.elim
      | some z =>
        rw [hd] at o2
        rcases h5 with ⟨e1, _⟩ | ⟨dd, gs, rfl, g1, g2, g3, g4⟩
        · subst e1; simp at hd
        · obtain ⟨yv, hy1, hy2⟩ := g4.get hd
          have lk : gs.lookup f = some yv := by
            rw [nmIx_look (ix := ix) (by rw [g3]; exact nm)]
            exact hy1
          have ha := xo_at I1.hok h1
          obtain ⟨mA, hns, hr⟩ := (I1.hok dd _ g1 : ObjOk X.prog X.w m1.H s1.heap dd (.xd gs))
          obtain ⟨od, hod, hl⟩ := lookIn_ns hns
          obtain ⟨u2, hu2, ru2⟩ := RelO.some_of (v := yv) (o := mA f) (by rw [← lk]; exact hr f)
          have J : PySem.W.InstAt s1.heap a oe (T.ca c) (some od) := ⟨ha, h2, by unfold PySem.W.notCls; rw [h4] <;> rfl, by rw [h3]; exact hod⟩
          exact HandSPX.exc_get I1.kIn J xf.ga xf.gg xf.exC (PySem.W.findObj_own xf.hdC no rfl (by rw [hl, hu2])) (handed_of ru2) ⟨yv, m1.H, I1.tok _, ru2, OutD.get o2 hy2⟩
    · exact o2.elim
  · exact o2.elim
/-! ### isinstance(e, c) -/
structure XisC (K : PySem.W.Frag) (D : Addr) : Prop where
  cl : (PySem.W.clsIn K D).isSome = true
  ga : PySem.W.findIn K (.ref D) "__getattribute__" = some (some (.builtin "BaseException.__getattribute__"))
  gt : PySem.W.findIn K (.ref D) "__getattr__" = some none
  sb : PySem.W.subIn K (.ref D) (.type "BaseException") = some true
  ca : PySem.W.findIn K (.ref D) "__class__" = some (some (.builtin "object.__class__"))
  gs : PySem.W.specialIn K (.builtin "object.__class__") "__get__" = some (some (.builtin "getset_descriptor.__get__"))
  tk : PySem.W.takesIn K (.builtin "object.__class__") = some true
  mo : PySem.W.mroIn K D (.type "object") = some true
def xisB (K : PySem.W.Frag) (D : Addr) : Bool := (PySem.W.clsIn K D).isSome && (He.eqO (PySem.W.findIn K (.ref D) "__getattribute__") (some (some (.builtin "BaseException.__getattribute__"))) && (He.eqO (PySem.W.findIn K (.ref D) "__getattr__") (some none) &&
  (decide (PySem.W.subIn K (.ref D) (.type "BaseException") = some true) && (He.eqO (PySem.W.findIn K (.ref D) "__class__") (some (some (.builtin "object.__class__"))) && (He.eqO (PySem.W.specialIn K (.builtin "object.__class__") "__get__") (some (some (.builtin "getset_descriptor.__get__"))) &&
  (decide (PySem.W.takesIn K (.builtin "object.__class__") = some true) && decide (PySem.W.mroIn K D (.type "object") = some true)))))))
theorem xis_ok {K : PySem.W.Frag} {D : Addr} (h : xisB K D = true) : XisC K D := by
  unfold xisB at h
  obtain ⟨h1, h⟩ := He.ba h
  obtain ⟨h2, h⟩ := He.ba h
  obtain ⟨h3, h⟩ := He.ba h
  obtain ⟨h4, h⟩ := He.ba h
  obtain ⟨h5, h⟩ := He.ba h
  obtain ⟨h6, h⟩ := He.ba h
  obtain ⟨h7, h8⟩ := He.ba h
  exact ⟨h1, He.eqO_ok h2, He.eqO_ok h3, of_decide_eq_true h4, He.eqO_ok h5, He.eqO_ok h6, of_decide_eq_true h7, of_decide_eq_true h8⟩
def rXis (X : Cx) (T : Ct) (tbl : List (Nat × Bool)) (cv : V) : List V → Hp → VK → Prop := fun xs H Q => ∃ (y : V) (m : Mem X.prog X.w T) (v : Vl), xs = [y, cv] ∧ m.H = H ∧ VR X.K m v y ∧ OutD m ((xisiD tbl v).map PyData.bool) Q
theorem k_xis {tbl : List (Nat × Bool)} {cv : V} {cu : Value} (hcv : ∀ u, RelV cv u → u = cu) (hx : ∀ q ∈ tbl, XisC X.K (T.ca q.1) ∧ PySem.W.kitOne X.K (.ref (T.ca q.1)) cu = some q.2) : CallR X (.builtin "isinstance") (rXis X T tbl cv) := by
  intro pins s σ H xs us Q I r h
  obtain ⟨y, m, v, rfl, rfl, hv, o⟩ := h
  cases r with
  | cons rx rr => cases rr with
    | cons rt rr =>
      cases rr
      have ec := hcv _ rt
      subst ec
      unfold xisiD at o
      split at o
      · rename_i c fs
        obtain ⟨a, rfl, oe, d, h1, n1, h2, h3, ⟨vs, h4⟩, h5⟩ := hv
        cases rx
        cases hl : tbl.lookup c with
        | none => rw [hl] at o; exact o.elim
        | some bb =>
          rw [hl] at o
          obtain ⟨xc, kt⟩ := hx _ (look_mem hl)
          have ha := xo_at I.hok h1
          have fin : ∀ tk : Nat, EP X pins σ Q (.bool bb) { s with toks := tk } := fun tk => ⟨.bl bb, m.H, I.kept (t' := tk) fun _ _ z => z, rfl, OutD.get o (.bl bb)⟩
          rcases h5 with ⟨_, e1⟩ | ⟨dd, gs, e1, g1, _⟩
          · have J : PySem.W.InstAt s.heap a oe (T.ca c) none := ⟨ha, h2, by unfold PySem.W.notCls; rw [h4] <;> rfl, by rw [h3, e1]; trivial⟩
            exact PySem.W.kia_one (PySem.W.kitx_exc xc.cl xc.ga xc.gt xc.sb xc.ca xc.gs xc.tk xc.mo) I.kIn J kt (fun z => nomatch z) fin
          · obtain ⟨mA, hns, hr⟩ := (I.hok dd _ g1 : ObjOk X.prog X.w m.H s.heap dd (.xd gs))
            obtain ⟨od, hod, _⟩ := lookIn_ns hns
            have J : PySem.W.InstAt s.heap a oe (T.ca c) (some od) := ⟨ha, h2, by unfold PySem.W.notCls; rw [h4] <;> rfl, by rw [h3, e1]; exact hod⟩
            exact PySem.W.kia_one (PySem.W.kitx_exc xc.cl xc.ga xc.gt xc.sb xc.ca xc.gs xc.tk xc.mo) I.kIn J kt (fun z => nomatch z) fin
      · exact o.elim
theorem s_xisi {tbl : List (Nat × Bool)} {Ca : Addr} {q : Pos} (hg : Gl X "isinstance") (hm : X.mg "isinstance" = none) (hg2 : Gl X x) (hm2 : X.mg x = some (.ref Ca)) (hx : ∀ q ∈ tbl, XisC X.K (T.ca q.1) ∧ PySem.W.kitOne X.K (.ref (T.ca q.1)) (.ref Ca) = some q.2) (ha : SE X T C W a ia)
    (hd : (x == ("__debug__" : Str)) = false := by decide) (he : starEach [a, .Name x q] X.env = (false, eval a X.env) :: starEach [.Name x q] X.env := by rfl) (he2 : starEach [.Name x q] X.env = (false, eval (.Name x q) X.env) :: starEach [] X.env := by rfl) (hpl : (backTo pos (starEach [.Name x q] X.env)).any (·.1) = false := by rfl) :
    SE X T C W (.Call (.Name "isinstance" p) [a, .Name x q] [] pos) (.xisi tbl ia) := by
  refine imE (pe_callB (k_xis (T := T) (cv := .ref Ca) (fun u h => h) hx) hg hm PyProof.Rows.boot_isinstance (pa_cons ha (pa_cons (pe_glob (v := .ref Ca) hg2 hm2 rfl hd) pa_nil he2) he) (by decide) (by decide) he hpl) fun σ H Q h => ?_
  obtain ⟨env, m, eH, er, o⟩ := h
  refine ⟨env, m, eH, er, (OutG.bind (R := VR X.K) (R' := VR X.K) (r := (sem C ia).v env m.S) o).imp ?_⟩
  rintro y H1 ⟨u', m1, f1, rfl, hv, q1⟩
  exact ⟨y, m1, u', rfl, rfl, hv, OutD.ofB q1⟩
end
end Itp

set_option Elab.async false
set_option linter.all false
set_option autoImplicit false
set_option maxRecDepth 100000
set_option maxHeartbeats 4000000
/-! Dict displays with texts as keys, methods of own classes, an error's own __init__. -/
namespace Itp
open PySem L2
open PyProof.Rows (envOfC)
section
variable {X : Cx} {T : Ct} {C : CallF} {W : WX} {fu : Nat} {a b e o : Expr} {es : List Expr} {ia ie io : E} {is : List E} {x : Str} {p pos apos : Pos}
/-! ### {'k': v, ..} -/
inductive SDs (X : Cx) (T : Ct) (C : CallF) (W : WX) : List (Option Expr) → List Expr → List Str → List E → Prop
  | nil : SDs X T C W [] [] [] []
  | cons {k : Str} {j : Nat} {kp : Pos} {v : Expr} {iv : E} {keys : List (Option Expr)} {values : List Expr} {ks : List Str} {is : List E} (hv : SE X T C W v iv) (r : SDs X T C W keys values ks is) : SDs X T C W (some (.Constant (.str k) j kp) :: keys) (v :: values) (k :: ks) (iv :: is)
theorem SDs.read {keys : List (Option Expr)} {values : List Expr} {ks : List Str} {is : List E} (h : SDs X T C W keys values ks is) : ∃ trs : List (TE × TE), (∀ pos, PPs X pos keys values trs) ∧ keys.all (·.isSome) = true ∧ keys.length = values.length ∧ keys.length = ks.length ∧
    ∀ (σ : L2.St) (env : Ev) (m : Mem X.prog X.w T) (R : List V → Hp → Prop) (Qf : List (V × V) → Hp → Prop), EnvR X.K m env σ → OutG (VRs X.K) W σ m (vals (sems C is) env m.S) R → (∀ ys H2, ys.length = ks.length → R ys H2 → Qf ((ks.map V.str).zip ys) H2) → tPairs trs σ m.H Qf := by
  induction h with
  | nil => exact ⟨[], fun pos => pps_nil, rfl, rfl, rfl, fun σ env m R Qf er o q => q [] m.H rfl (o [] m (Fut.refl m) rfl .nil)⟩
  | @cons k j kp v iv keys values ks is hv r ih =>
    obtain ⟨trs, h1, h2, h3, h4, h5⟩ := ih
    refine ⟨(tC (.str k), tE X.prog X.w T X.K (sem C iv).v W) :: trs, fun pos => pps_cons pe_str hv (h1 pos), ?_, ?_, ?_, ?_⟩
    · rw [List.all_cons, h2]; rfl
    · rw [List.length_cons, List.length_cons, h3]
    · rw [List.length_cons, List.length_cons, h4]
    · intro σ env m R Qf er o qf
      show tE X.prog X.w T X.K (sem C iv).v W σ m.H _
      refine ⟨env, m, rfl, er, (OutG.bind (R := VR X.K) (R' := VRs X.K) (r := (sem C iv).v env m.S) o).imp ?_⟩
      rintro y H1 ⟨u, m1, f1, rfl, vy, o1⟩
      refine h5 σ env m1 (fun ys H2 => R (y :: ys) H2) _ (er.mono f1) ?_ fun ys H2 hl hR => ?_
      · cases hr : vals (sems C is) env m1.S with
        | er => rw [hr] at o1; exact o1
        | ex c fs S => rw [hr] at o1; exact o1
        | ok vs S =>
          rw [hr] at o1
          intro ys m2 f2 e2 hv2
          exact o1 (y :: ys) m2 f2 e2 (.cons (vy.mono f2) hv2)
      · exact qf (y :: ys) H2 (by rw [List.length_cons, List.length_cons, hl]) hR
theorem merge_new : ∀ (more kvs : List (Key × V)), (kvs.map (·.1) ++ more.map (·.1)).Nodup → mergeK kvs more = kvs ++ more
  | [], kvs, _ => by simp [mergeK]
  | q :: r, kvs, h => by
    have hn : (kvs.any fun kv => decide (kv.1 = q.1)) = false := by
      rw [List.any_eq_false]
      intro z hz e
      have e : z.1 = q.1 := of_decide_eq_true e
      rw [List.nodup_append] at h
      exact h.2.2 z.1 (List.mem_map_of_mem hz) q.1 (by simp) e
    have e1 : putK kvs q.1 q.2 = kvs ++ [q] := by unfold putK; rw [hn]; rfl
    show mergeK (putK kvs q.1 q.2) r = _
    rw [e1, merge_new r (kvs ++ [q]) (by simpa using h)]
    simp
theorem push_dk0 (m : Mem X.prog X.w T) (p : Addr) (hp : m.H p = none) : ∃ m' : Mem X.prog X.w T, m'.S = m.S ++ [.dk0] ∧ m'.H = upd m.H p (.dK []) ∧ Fut m m' ∧ m'.φ[m.S.length]? = some (p, p) := by
  have k := upd_keep (o := .dK []) hp
  have ob : ∀ M : Addr → Prop, (∀ x u, m.H x = some u → ¬ m.M x → ¬ M x) → ObR X.prog X.w T M (upd m.H p (.dK [])) p p .dk0 := fun M hM => upd_same
  have t : (upd m.H p (.dK []) p).isSome = true := by rw [upd_same]; rfl
  refine ⟨m.push .dk0 p p _ hp hp k t t rfl ob, rfl, rfl, m.push_fut hp hp k t t rfl ob, ?_⟩
  show (m.φ ++ [(p, p)])[m.S.length]? = some (p, p)
  rw [← m.len, List.getElem?_append_right (Nat.le_refl _)]
  simp
theorem s_dnS {keys : List (Option Expr)} {values : List Expr} {ks : List Str} {is : List E} (h : SDs X T C W keys values ks is) (hk : (Nat.ble ks.length 15 && Nat.blt 0 ks.length) = true := by rfl) : SE X T C W (.Dict keys values pos) (.dnS ks is) := by
  · rw [Bool.and_eq_true] at hk
    have k15 : ks.length ≤ 15 := Nat.le_of_ble_eq_true hk.1
    have k0 : 0 < ks.length := Nat.blt_eq.mp hk.2
    obtain ⟨trs, h1, h2, h3, h4, h5⟩ := h.read
    refine imE (pe_disp (h1 pos) h2 h3 (fun z => by rw [z] at h4; simp at h4; omega) (by omega)) fun σ H Q hh => ?_
    obtain ⟨env, m, rfl, er, o⟩ := hh
    intro p hp
    obtain ⟨m1, e1, e2, f1, at1⟩ := push_dk0 m p hp
    rw [← e2]
    replace o : OutG (VR X.K) W σ m ((vals (sems C is) env (m.S ++ [.dk0])).bind fun vs S1 => putS m.S.length ks vs S1) Q := o
    rw [← e1] at o
    refine h5 σ env m1 _ _ (er.mono f1) (OutG.bind (R := VRs X.K) (R' := VR X.K) (r := vals (sems C is) env m1.S) (OutG.fut f1 o)) ?_
    rintro ys H2 hl ⟨vs, m2, f2, rfl, hv, o2⟩
    have at2 := f2.pre _ _ at1
    replace o2 : OutG (VR X.K) W σ m2 (putS m.S.length ks vs m2.S) Q := o2
    unfold putS at o2
    split at o2
    · rename_i ds hd hS
      split at o2
      · rename_i hc
        rw [Bool.and_eq_true, Bool.and_eq_true, Bool.and_eq_true] at hc
        have nd : ks.Nodup := of_decide_eq_true hc.2.2.2
        have hdl : ds.length = ks.length := Nat.eq_of_beq_eq_true hc.1
        have dr := hv.dat hd
        have hH : m2.H p = some (.dK []) := m2.obj _ _ _ at2 hS
        refine ⟨hH, (ks.map fun k => (Sum.inr k : Key)).zip ys, ?_, ?_, ?_⟩
        · rw [List.zip_map_left, List.zip_map_left, List.map_map]
          rfl
        · rw [List.length_zip, List.length_map]; omega
        · have nk : ((ks.map fun k => (Sum.inr k : Key)).zip ys).map (·.1) = ks.map fun k => (Sum.inr k : Key) := List.map_fst_zip (by rw [List.length_map]; omega)
          have nv : ((ks.map fun k => (Sum.inr k : Key)).zip ys).map (·.2) = ys := List.map_snd_zip (by rw [List.length_map]; omega)
          rw [merge_new _ [] (by
            rw [nk]
            show (ks.map fun k => (Sum.inr k : Key)).Nodup
            exact List.Pairwise.map _ (fun a b hne hab => hne (Sum.inr.inj hab)) nd)]
          obtain ⟨m3, e3, h3', f3⟩ := m2.putAt (o' := .dic ((ks.map PyData.str).zip ds)) (u := .dK ([] ++ (ks.map fun k => (Sum.inr k : Key)).zip ys)) at2 hS rfl (fun M' k => by
            refine .inl ⟨_, upd_same, ?_, ?_⟩
            · rw [List.nil_append, nv, List.map_snd_zip (by rw [List.length_map]; omega)]
              exact DrAll.mono k _ _ dr
            · rw [List.nil_append, List.map_fst_zip (by rw [List.length_map]; omega), show (fun q : Key × V => kD q.1) = kD ∘ (·.1) from rfl, ← List.map_map, nk, List.map_map]
              rfl)
          rw [← h3']
          exact o2 (.ref p) m3 f3 e3 ⟨(p, p), f3.pre _ _ at2, rfl⟩
      · exact o2.elim
    · exact o2.elim
/-! ### an error's own __init__ -/
theorem xinit_ok {P : Program} {w : World} {K : PySem.W.Frag} {mg : Str → Option Value} {base : Heap} {y qual f : Str} {params : Arguments} {body : List Stmt} {scope : Scope} {ad : Addr} {fd : FuncData} {N ps : List Str}
    (F : FunD K y qual params body scope [] [] ad fd) (sc : FnScope N ps scope) (hps : ps.length = 2) (hN : N.length = 2)
    (hB : ∀ (cdv : Value) (A : Around) (outer : List Env) (s : Shared) (H : Hp) (E : XK), PSs (cxOf (L2.CX P w) P w K mg base N qual scope ad cdv A outer s H E) body (tOst K f (tVar 0) (tVar 1))) :
    FnOk P w K mg base (L2.CX P w) 2 ad fd ps (spX K f) := by
  refine F.ok (k := 1) sc (fun vs H Q E h => ?_) fun cdv A outer s H vs Q E hr h => ⟨_, hB cdv A outer s H E, ?_⟩
  · obtain ⟨a, Ca, v, rfl, _⟩ := h
    rw [hps]; rfl
  · obtain ⟨a, Ca, v, rfl, h1, h2, h3, h4⟩ := h
    have hst : L2.start N [V.ref a, v] = [some (.ref a), some v] := by
      unfold L2.start
      rw [hN]
      rfl
    rw [hst]
    exact ⟨v, rfl, .ref a, rfl, a, Ca, rfl, h1, h2, .inl ⟨h3, h4⟩⟩
/-! ### methods -/
theorem look_none {β : Type} {nm : Str} : ∀ {gs : List (Str × β)}, (∀ g ∈ gs.map (·.1), g ≠ nm) → gs.lookup nm = none
  | [], _ => rfl
  | (k, v) :: r, h => by
    rw [List.lookup_cons]
    have : (nm == k) = false := beq_false_of_ne fun z => h k (by simp) z.symm
    rw [this]
    exact look_none fun g hg => h g (List.mem_cons_of_mem _ hg)
theorem methOk_inv {m : Mem X.prog X.w T} {c : Nat} {nm : Str} {u : Vl} {y : V} (hno : ∀ g ∈ T.cf c, g ≠ nm) (hv : VR X.K m u y) (h : methOk m.S c nm u = true) : ∃ a dx gs, y = .ref a ∧ m.H a = some (.ins (T.ca c) dx gs) ∧ gs.lookup nm = none := by
  unfold methOk at h
  split at h
  · rename_i c' r
    have e : c' = (c : Int) := of_decide_eq_true h
    obtain ⟨c0, ds, a, dx, fs, e0, _, rfl, h1, _, h2, _⟩ := Dr.ins_inv hv
    have : c = c0 := Int.ofNat.inj (e.symm.trans e0)
    subst this
    exact ⟨a, dx, fs, rfl, h1, look_none (by rw [h2]; exact hno)⟩
  · rename_i n
    split at h
    · rename_i c' fs hS
      rw [Bool.and_eq_true] at h
      have e : c' = c := of_decide_eq_true h.1
      subst e
      obtain ⟨p, hp, rfl⟩ := hv
      obtain ⟨dx, gs, h1, h2, _⟩ := m.obj n p _ hp hS
      refine ⟨p.1, dx, gs, rfl, h1, look_none ?_⟩
      rw [← h2]
      intro g hg
      obtain ⟨q, hq, rfl⟩ := List.mem_map.mp hg
      exact of_decide_eq_true (List.all_eq_true.mp h.2 q hq)
    · cases h
  · cases h
theorem s_meth {c k f : Nat} {ad : Addr} {m : Str} {pl : Sem Bool} (cl : Cls X.K (T.ca c)) (hm : Meth X.K (T.ca c) m ad) (hno : ∀ g ∈ T.cf c, g ≠ m) (F : FnE X.prog X.w X.K X.mg X.base T C k f ad) (hr : Room k X.A) (tk : Takes X W) (ho : SE X T C W o io) (ha : SA X T C W (e :: es) is)
    (hst : starEach (e :: es) X.env = (false, eval e X.env) :: starEach es X.env := by rfl) (hpl : (backTo pos (starEach es X.env)).any (·.1) = false := by rfl)
    (ht : eval (.Call (.Attribute o m apos) (e :: es) [] pos) X.env = (do
      let ov ← eval o X.env
      standAt apos.atName
      let (f, first) ← holding [ov] (getMethod ov m pl)
      callWith pos f first (backTo pos (starEach (e :: es) X.env)) (backToKw pos (keywordEach [] X.env))) := by rfl) :
    SE X T C W (.Call (.Attribute o m apos) (e :: es) [] pos) (.meth c f m io is) := by
  obtain ⟨fd, ps, ok, hb⟩ := F.ok
  refine ⟨fun pins s σ H Q I h => ?_⟩
  obtain ⟨env, m0, rfl, er, oo⟩ := h
  refine PySem.W.methodCall_KW (pl := pl) (thn (ho.run pins s σ m0.H _ I ⟨env, m0, rfl, er, OutG.bind (R := VR X.K) (R' := VR X.K) (r := (sem C io).v env m0.S) oo⟩) fun u s1 hh => ?_) ht
  obtain ⟨y, H1, I1, ry, v, m1, f1, rfl, hv, o1⟩ := hh
  split at o1
  · rename_i hi
    obtain ⟨a, dx, gs, rfl, h1, h2⟩ := methOk_inv hno hv hi
    obtain rfl : u = Value.ref a := ry
    refine getmeth_ok I1 h1 cl hm h2 ?_
    refine PySem.W.callWith_K (first := [.ref a]) (h₀ := X.base) I.ok.mod.kin hm.kp (thn (ha.run pos pins s1 σ m1.H _ I1 ⟨env, m1, rfl, er.mono f1, OutG.bind (R := VRs X.K) (R' := VR X.K) (r := vals (sems C is) env m1.S) o1⟩) fun us s2 hh => ?_) hst hpl
    obtain ⟨vs, H2, I2, r, as, m2, f2, rfl, hvs, o2⟩ := hh
    exact ⟨I2.kIn, run_fnS (E := WE W) (us := .ref a :: us) (vs := .ref a :: vs) ok hr hb (passAt tk σ) I2 (.cons rfl r) ⟨m2, v :: as, rfl, .cons (hv.mono f2) hvs, o2.cv fun c d H h => h⟩⟩
  · exact o1.elim
theorem s_meth0 {c k f : Nat} {ad : Addr} {m : Str} {pl : Sem Bool} (cl : Cls X.K (T.ca c)) (hm : Meth X.K (T.ca c) m ad) (hno : ∀ g ∈ T.cf c, g ≠ m) (F : FnE X.prog X.w X.K X.mg X.base T C k f ad) (hr : Room k X.A) (tk : Takes X W) (ho : SE X T C W o io)
    (ht : eval (.Call (.Attribute o m apos) [] [] pos) X.env = (do
      let ov ← eval o X.env
      standAt apos.atName
      let (f, first) ← holding [ov] (getMethod ov m pl)
      callWith pos f first (backTo pos (starEach [] X.env)) (backToKw pos (keywordEach [] X.env))) := by rfl) :
    SE X T C W (.Call (.Attribute o m apos) [] [] pos) (.meth c f m io []) := by
  obtain ⟨fd, ps, ok, hb⟩ := F.ok
  refine ⟨fun pins s σ H Q I h => ?_⟩
  obtain ⟨env, m0, rfl, er, oo⟩ := h
  refine PySem.W.methodCall_KW (pl := pl) (thn (ho.run pins s σ m0.H _ I ⟨env, m0, rfl, er, OutG.bind (R := VR X.K) (R' := VR X.K) (r := (sem C io).v env m0.S) oo⟩) fun u s1 hh => ?_) ht
  obtain ⟨y, H1, I1, ry, v, m1, f1, rfl, hv, o1⟩ := hh
  split at o1
  · rename_i hi
    obtain ⟨a, dx, gs, rfl, h1, h2⟩ := methOk_inv hno hv hi
    obtain rfl : u = Value.ref a := ry
    refine getmeth_ok I1 h1 cl hm h2 ?_
    exact PySem.W.callWith_K0 (first := [.ref a]) I1.kIn hm.kp (run_fnS (E := WE W) (us := [.ref a]) (vs := [.ref a]) ok hr hb (passAt tk σ) I1 (.cons rfl .nil) ⟨m1, [v], rfl, .cons hv .nil, OutG.cv (W' := fun c d _ H => WE W σ c d H) (σ' := []) o1 fun c d H h => h⟩)
  · exact o1.elim
end
end Itp

set_option Elab.async false
set_option linter.all false
set_option autoImplicit false
set_option maxRecDepth 100000
set_option maxHeartbeats 4000000
/-! Lists put together that will change; words for the generated texts. -/
namespace Itp
open PySem L2
section
variable {X : Cx} {T : Ct} {C : CallF} {W : WX} {fu : Nat} {a b e o : Expr} {ia ib : E} {x : Str} {p pos : Pos}
theorem s_catN (ha : SE X T C W a ia) (hb : SE X T C W b ib) : SE X T C W (.BinOp a .Add b pos) (.catN ia ib) := by
  refine imE (pe_op op_cat ha hb) fun σ H Q h => ?_
  obtain ⟨env, m, rfl, er, o⟩ := h
  refine ⟨env, m, rfl, er, (OutG.bind (R := VR X.K) (R' := VR X.K) (r := (sem C ia).v env m.S) o).imp ?_⟩
  rintro y H1 ⟨u, m1, f1, rfl, hu, o1⟩
  refine ⟨env, m1, rfl, er.mono f1, (OutG.bind (R := VR X.K) (R' := VR X.K) (r := (sem C ib).v env m1.S) o1).imp ?_⟩
  rintro z H2 ⟨v, m2, f2, rfl, hv, o2⟩
  replace o2 : OutG (VR X.K) W σ m2 (catV u v m2.S) Q := o2
  unfold catV at o2
  split at o2
  · rename_i xs ys e1 e2
    split at o2
    · rename_i hl
      obtain ⟨p1, vs, rfl, h1, r1⟩ := lst_of (hu.mono f2) e1
      obtain ⟨p2, ws, rfl, h2, r2⟩ := lst_of hv e2
      refine ⟨p1, p2, vs, ws, rfl, rfl, h1, h2, by rw [← r1.length, ← r2.length]; exact inLine_sz hl, fun q hq => ?_⟩
      have k := upd_keep (o := .lst (vs ++ ws)) hq
      have ob : ∀ M : Addr → Prop, (∀ x u, m2.H x = some u → ¬ m2.M x → ¬ M x) → ObR X.prog X.w T M (upd m2.H q (.lst (vs ++ ws))) q q (.lst (xs ++ ys)) := fun M hM =>
        ⟨vs ++ ws, upd_same, DrAll.mono (fun x u e n => ⟨k x u e, hM x u e n⟩) _ _ (r1.append r2)⟩
      have t : (upd m2.H q (.lst (vs ++ ws)) q).isSome = true := by rw [upd_same]; rfl
      refine o2 (.ref q) (m2.push (.lst (xs ++ ys)) q q _ hq hq k t t rfl ob) (m2.push_fut hq hq k t t rfl ob) rfl ⟨(q, q), ?_, rfl⟩
      show (m2.φ ++ [(q, q)])[m2.S.length]? = some (q, q)
      rw [← m2.len, List.getElem?_append_right (Nat.le_refl _)]
      simp
    · exact o2.elim
  · exact o2.elim
end
/-! ### words -/
theorem excF_ok {K : PySem.W.Frag} {x : Str} (c : (He.Fa.exc x).ok K = true) : ExcF K (He.ga K x) := by
  obtain ⟨h1, h2, h3, h4⟩ := He.exc_ok c
  exact ⟨h1, h2, h3, h4⟩
theorem tb_nil {p : Nat × Bool → Prop} : ∀ q ∈ ([] : List (Nat × Bool)), p q := fun q hq => by cases hq
theorem tb_cons {p : Nat × Bool → Prop} {z : Nat × Bool} {tbl : List (Nat × Bool)} (h : p z) (r : ∀ q ∈ tbl, p q) : ∀ q ∈ z :: tbl, p q := fun q hq => by
  rcases List.mem_cons.mp hq with rfl | hq
  · exact h
  · exact r q hq
theorem cs_nil {p : Nat → Prop} : ∀ q ∈ ([] : List Nat), p q := fun q hq => by cases hq
theorem cs_cons {p : Nat → Prop} {z : Nat} {tbl : List Nat} (h : p z) (r : ∀ q ∈ tbl, p q) : ∀ q ∈ z :: tbl, p q := fun q hq => by
  rcases List.mem_cons.mp hq with rfl | hq
  · exact h
  · exact r q hq
def kitB (K : PySem.W.Frag) (D Ca : Addr) (b : Bool) : Bool := decide (PySem.W.kitOne K (.ref D) (.ref Ca) = some b)
theorem kit_ok {K : PySem.W.Frag} {D Ca : Addr} {b : Bool} (h : kitB K D Ca b = true) : PySem.W.kitOne K (.ref D) (.ref Ca) = some b := of_decide_eq_true h
def nofB (K : PySem.W.Frag) (D : Addr) (f : Str) : Bool := He.eqO (PySem.W.findIn K (.ref D) f) (some none)
theorem nof_ok {K : PySem.W.Frag} {D : Addr} {f : Str} (h : nofB K D f = true) : PySem.W.findIn K (.ref D) f = some none := He.eqO_ok h
end Itp

set_option Elab.async false
set_option linter.all false
set_option autoImplicit false
set_option maxRecDepth 100000
set_option maxHeartbeats 4000000
/-! tuple.index, str.find, str.join. -/
namespace Itp
open PySem L2
section
variable {X : Cx} {T : Ct} {C : CallF} {W : WX} {a b e o : Expr} {es : List Expr} {ia ib io : E} {is : List E} {id : String} {name : Str} {apos cpos : Pos}
theorem flat_ints (ys : List Int) : (ys.map V.int).all flatV = true := by
  rw [List.all_map]
  exact List.all_eq_true.mpr fun _ _ => rfl
theorem m_indexT : MtR X "tuple.index" (rM X T .indexT) := by
  intro pins s σ H x xs v us Q I rx rxs h
  obtain ⟨m, a, as, W, σ', rfl, va, vs, o⟩ := h
  replace o : OutD m (idxT a as) Q := ask_out rfl o
  unfold idxT at o
  split at o
  · rename_i k
    split at o
    · rename_i ds
      split at o
      · rename_i hi
        split at o
        · rename_i j hj
          cases vs with
          | cons hv r =>
            cases r
            cases Dr.int_inv hv
            obtain ⟨p, ys, rfl, h1, _, h2⟩ := Dr.tup_inv va
            rw [h2.allI hi] at h1
            cases rx
            obtain ⟨u, rfl, ru⟩ := Vals.one rxs
            obtain ⟨t, rfl⟩ := ru
            generalize hys : intsOf ds = zs at h1 hj
            obtain ⟨its, rv, ⟨⟨cls, dd, data, sl⟩, ho, hc, n, hd⟩, hlen⟩ := I.tuple (sqT h1)
            simp only at hc hd
            subst hc hd
            obtain ⟨hjl, hjk, hjn⟩ := List.findIdx?_eq_some_iff_getElem.mp hj
            have hl : its.toArray.size = zs.length := by rw [List.size_toArray, ← rv.length, List.length_map]
            have get : ∀ (i : Nat) (hm : i < its.toArray.size), ∃ t', its.toArray[i] = Value.int (zs[i]'(by omega)) t' := fun i hm => by
              have hm' : i < zs.length := by omega
              obtain ⟨q, hq, t', hq'⟩ := rv.get (i := i) (x := .int zs[i]) (by simp [hm'])
              refine ⟨t', ?_⟩
              have e := (List.getElem?_eq_some_iff.mp hq).2
              rw [← hq', ← e]
              simp
            refine call_meets PySem.F.slot_tuple_index ⟨_, ho, rfl⟩ PySem.F.entry_tuple_index (PySem.F.args_tuple_index_2 _ _) (TI.tuple_indexAt p its.toArray n dd sl (.int k t) (eqU (.int k)) j (by omega) ?_ ?_)
              ⟨ho, fun q hq => mem_eqAt (x := .int k) ⟨t, rfl⟩ rfl rv (flat_ints zs) q (by simpa using hq), ⟨.int (j : Nat), m.H, I.tok _, ⟨_, rfl⟩, OutD.get o (.int _)⟩⟩
            · obtain ⟨t', e⟩ := get j (by omega)
              rw [e]
              exact hjk
            · intro i hm hij
              obtain ⟨t', e⟩ := get i hm
              rw [e]
              have := hjn i hij
              exact Bool.eq_false_iff.mpr this
        · exact o.elim
      · exact o.elim
    · exact o.elim
  · exact o.elim
theorem recvTi {m : Mem X.prog X.w T} {u : Vl} {y : V} (hv : VR X.K m u y) (h : recvOk m.S .indexT u = true) : tyT y m.H := by
  have : ∃ xs, u = .d (.tuple xs) := by
    cases u with
    | d x => cases x <;> first | exact ⟨_, rfl⟩ | cases h
    | r n => cases h
    | s n => cases h
    | x n k => cases h
  obtain ⟨xs0, rfl⟩ := this
  obtain ⟨p, xs, rfl, ⟨o, ho, h1⟩, _⟩ := Dr.tup_inv hv
  exact ⟨p, o, xs, rfl, h1, ho⟩
theorem s_indexT (ho : SE X T C W o io) (ha : SA X T C W [e] is)
    (hbase : attributeBase o "index" X.env (eval o X.env) = eval o X.env := by rfl)
    (hfew : ((backTo cpos (starEach [e] X.env)).all (fun x => !x.1) && (backToKw cpos (keywordEach [] X.env)).all (fun x => x.1.isSome)
      && decide ([e].length + ([] : List Keyword).length + (if ([] : List Keyword).isEmpty then 0 else 1) < 30)) = true := by rfl)
    (hline : (apos.endLine == cpos.line) = true := by rfl) (hs : starEach [e] X.env = (false, eval e X.env) :: starEach [] X.env := by rfl) (hplain : (backTo cpos (starEach [] X.env)).any (·.1) = false := by rfl) :
    SE X T C W (.Call (.Attribute o "index" apos) [e] [] cpos) (.mth .indexT io is) := by
  refine imE (pe_bmG tyT_ok PySem.F.plainAttrs_tuple PySem.F.slot_tuple_index PySem.F.type_tuple_index (m_indexT (T := T)) ho ha hbase hfew hline hs hplain) fun σ H Q h => ?_
  exact mth_out (fun m u y hv hk => recvTi hv hk) h
end
end Itp

set_option Elab.async false
set_option linter.all false
set_option autoImplicit false
set_option maxRecDepth 100000
set_option maxHeartbeats 4000000
/-! min of a dict's keys. -/
namespace Itp
open PySem L2
section
variable {prog : Program} {w : World} {A : Around} {E : Value → Shared → Prop} {s : Shared}
open PySem.W in
theorem min_dict_data {d : Addr} {o : Obj} {es : Array DictEntry} {ep : Nat} {x : PyData} {xs : List PyData} {as : List Addr} {Q : Value → Shared → Prop} (hh : A.handled = none) (hs : (d == sysModules) = false) (ho : s.heap.get? d = some o) (hx : o.ExactDict) (hd : o.data = .dict es ep)
    (hr : ReadsAll s.heap (es.map (·.key)).toList (x :: xs) as) (ha : AlikeAll (x :: xs)) (hu : A.units + 1 + PyData.depthAll (x :: xs) < cLine)
    (h : ∀ (i : Nat) v h' tk bs, (es.map (·.key))[i]? = some v → Reads h' v (PySem.W.minD x xs) bs → (∀ b o, s.heap.get? b = some o → h'.get? b = some o) → Q v { s with heap := h', toks := tk }) :
    wpAny (model prog w) A (call (.builtin "min") [.ref d]) Q E s := by
  have hn : (es.map (·.key)).size = xs.length + 1 := readsAll_len hr
  have hn' : es.size = xs.length + 1 := by rw [← hn, Array.size_map]
  have hlt : d < s.heap.objs.size := Heap.lt_size ho
  refine call_min_walkH (iter_keys hs ho hx hd ?_)
  have W := (PySem.Walks.mono_item (P' := fun i v => (es.map (·.key))[i]? = some v) (walks_raw (prog := prog) (w := w) (A := A.in1) hh s.heap.objs.size d (Nat.ne_of_lt hlt) hd) fun i v _ ⟨en, e1, e2⟩ => by rw [Array.getElem?_map, e1, e2]; rfl).toS
  refine ⟨_, _, _, _, _, _, _, s.heap, _, rfl, W, ⟨⟨_, Heap.get?_push_size _ rfl, rfl, rfl⟩, Heap.get?_push_of_some _ ho⟩, (fun b hb => ?_), by omega, (fun b o e hb => ?_), (fun b o e => Heap.get?_push_of_some _ e), cmpIn_lt (A := A.in1) hr ha (by show A.units + 1 + _ < _; exact hu), fun v s' hP m => ?_⟩
  · show b < (s.heap.push _).objs.size
    rw [Heap.size_push]
    rcases List.mem_cons.mp hb with rfl | hb
    · exact Nat.lt_succ_self _
    · rcases List.mem_cons.mp hb with rfl | hb
      · exact Nat.lt_succ_of_lt hlt
      · cases hb
  · exact absurd (Heap.lt_size e) ((List.mem_singleton.mp hb) ▸ Nat.lt_irrefl _)
  obtain ⟨h', tk, rfl, hk'⟩ := moved_old rfl rfl m
  obtain ⟨bs, r, _, _, _⟩ := readsAll_atA hr _ v hP
  have e1 : es.size - 1 = xs.length := by omega
  have e2 := (argBest_fold dataLt PyData.none x xs xs.length (Nat.le_refl _)).2
  rw [List.take_length] at e2
  rw [e1] at r
  exact h _ v h' tk bs hP (reads_keeps hk' (by unfold PySem.W.minD; rw [← e2]; exact r)) hk'
end
section
variable {X : Cx} {T : Ct} {C : CallF} {W : WX} {a : Expr} {ia : E} {p pos : Pos}
def mnK (S : Sto) (v : Vl) : Option D := (b1D S .list v).bind fun d => b1D S .min (.d d)
open PySem.W PySem.Calls PyProof.Rows in
/-- the item found, told by its place -/
theorem min_got {m : Mem X.prog X.w T} {pins : List (Addr × Obj)} {s : Shared} {σ : L2.St} {d0 : D} {ds : List D} {its : List Value} (hh : homog (d0 :: ds) = true) (I : L2.Inv X pins σ m.H s) (e1 : EachIs (fun (u : Value) (d : D) => ∃ v, RelV v u ∧ Dr X.prog X.w T m.M m.H d v) its (d0 :: ds)) :
    (∃ bs, ReadsAll s.heap its (d0 :: ds) bs) ∧ ∀ (i : Nat) v (h' : Heap) (tk : Nat) cs, its[i]? = some v → Reads h' v (PySem.W.minD d0 ds) cs → (∀ b o, s.heap.get? b = some o → h'.get? b = some o) → ∃ x, RelV x v ∧ Dr X.prog X.w T m.M m.H (Itp.minD d0 ds) x := by
  obtain ⟨_, sh⟩ := homog_alike hh
  have e2 : EachIs (fun v d => ∃ as, Reads s.heap v d as) its (d0 :: ds) := (each_mem e1).mono fun u d ⟨⟨v, p, q⟩, hm⟩ => Dp.reads I d v u (Dr.dp d v q (SeqAt.canLay_of_shaped (sh d hm).1)) p
  obtain ⟨bs, e3⟩ := each_readsAll (fun d : D => d) e2
  rw [List.map_id'] at e3
  refine ⟨⟨bs, e3⟩, fun i v h' tk cs hv hr hk => ?_⟩
  have key : ∃ d x, RelV x v ∧ Dr X.prog X.w T m.M m.H d x ∧ (d0 :: ds)[i]? = some d ∧ ∃ as, Reads s.heap v d as := by
    clear hr hk
    have ee := each_mem e1
    revert hv
    have : ∀ (its : List Value) (dd : List D), EachIs (fun (u : Value) (d : D) => (∃ v, RelV v u ∧ Dr X.prog X.w T m.M m.H d v) ∧ d ∈ (d0 :: ds)) its dd → ∀ i : Nat, its[i]? = some v → ∃ d x, RelV x v ∧ Dr X.prog X.w T m.M m.H d x ∧ dd[i]? = some d ∧ ∃ as, Reads s.heap v d as := by
      intro its dd hh
      induction hh with
      | nil => intro i hi; simp at hi
      | cons hd tl ih =>
        intro i hi
        cases i with
        | zero =>
          simp at hi
          subst hi
          obtain ⟨⟨x, p, q⟩, hm⟩ := hd
          exact ⟨_, x, p, q, rfl, Dp.reads I _ x _ (Dr.dp _ x q (SeqAt.canLay_of_shaped (sh _ hm).1)) p⟩
        | succ i => exact ih i (by simpa using hi)
    exact this its (d0 :: ds) ee i
  obtain ⟨d, x, rx, dx, _, cs', rr⟩ := key
  have ed : PySem.W.minD d0 ds = d := (reads_det (fun b o e _ => hk b o e) rr hr).1
  refine ⟨x, rx, ?_⟩
  rw [minD_eq, ed]
  exact dx
open PySem.W PySem.Calls PyProof.Rows in
theorem k_minK (hc : X.calm = true) (hu : X.A.units + 70 < cLine) : CallR X (.builtin "min") (rDs X.prog X.w T X.K (f1 mnK)) := by
  intro pins s σ H xs us Q I r h
  obtain ⟨m, as, rfl, vs, o⟩ := h
  obtain ⟨a, x, rfl, va, o⟩ := f1_out vs o
  replace o : OutD m (((keysD m.S a).map .list).bind fun d => b1D m.S .min (.d d)) Q := o
  unfold keysD at o
  have next : ∀ l : List D, OutD m (b1D m.S .min (.d (.list l))) Q → ∃ d0 ds, l = d0 :: ds ∧ homog (d0 :: ds) = true ∧ OutD m (some (Itp.minD d0 ds)) Q := by
    intro l o
    replace o : OutD m (match l with | x :: r => if homog (x :: r) then some (Itp.minD x r) else none | _ => none) Q := by
      cases l <;> exact o
    cases l with
    | nil => exact o.elim
    | cons d0 ds =>
      simp only at o
      split at o
      · rename_i hh; exact ⟨d0, ds, rfl, hh, o⟩
      · exact o.elim
  cases e : seqOf m.S a with
  | some l =>
    rw [e] at o
    obtain ⟨d0, ds, rfl, hh, o⟩ := next l o
    obtain ⟨p, xs, rfl, h1, r1⟩ := seq_of va e
    obtain ⟨u, rfl, rx⟩ := vals1 r
    cases rx
    have dp := homog_deep hh
    rcases h1 with h1 | h1
    · obtain ⟨its, r', pl, hz⟩ := I.list (SqL.of h1)
      obtain ⟨⟨bs, e3⟩, got⟩ := min_got hh I (each_rel r1 r')
      refine min_list_data (I.ok.hd hc) pl.isList (by simpa using e3) (homog_min hh) (by omega) fun i v h' tk cs hv hr hk => ?_
      obtain ⟨x, rx, dx⟩ := got i v h' tk cs (by simpa using hv) hr hk
      exact ⟨x, m.H, I.kept (t' := tk) hk, rx, o.get dx⟩
    · obtain ⟨its, r', pl, hz⟩ := I.tuple (sqT h1)
      obtain ⟨⟨bs, e3⟩, got⟩ := min_got hh I (each_rel r1 r')
      refine min_tuple_data (I.ok.hd hc) (show s.heap.IsTuple p its.toArray from pl) (by simpa using e3) (homog_min hh) (by omega) fun i v h' tk cs hv hr hk => ?_
      obtain ⟨x, rx, dx⟩ := got i v h' tk cs (by simpa using hv) hr hk
      exact ⟨x, m.H, I.kept (t' := tk) hk, rx, o.get dx⟩
  | none =>
    rw [e] at o
    cases e2 : dicOf m.S a with
    | none => rw [e2] at o; exact o.elim
    | some kvs =>
      rw [e2] at o
      obtain ⟨d0, ds, el, hh, o⟩ := next _ o
      obtain ⟨p, rfl, da⟩ := dic_of va e2
      obtain ⟨u, rfl, rx⟩ := vals1 r
      cases rx
      have dp := homog_deep hh
      obtain ⟨hs, ob, es, ep, ks, ho, hx, hdt, hz, rv, rk⟩ := dic_keys I da
      have el : kvs.map (·.1) = d0 :: ds := el
      rw [el] at rk
      obtain ⟨⟨bs, e3⟩, got⟩ := min_got hh I (each_rel rk rv)
      refine min_dict_data (I.ok.hd hc) hs ho hx hdt (by simpa using e3) (homog_min hh) (by omega) fun i v h' tk cs hv hr hk => ?_
      obtain ⟨x, rx, dx⟩ := got i v h' tk cs (by simpa using hv) hr hk
      exact ⟨x, m.H, I.kept (t' := tk) hk, rx, o.get dx⟩
theorem s_minK (hc : X.calm = true) (hu : X.A.units + 70 < cLine) (hg : Gl X "min") (hm : X.mg "min" = none) (ha : SE X T C W a ia) (he : starEach [a] X.env = (false, eval a X.env) :: starEach [] X.env := by rfl) : SE X T C W (.Call (.Name "min" p) [a] [] pos) (.b1 .min (.b1 .list ia)) :=
  imE (pe_callB (k_minK (T := T) hc hu) hg hm PyProof.Rows.boot_min (s_acons ha s_anil he) (by decide) (by decide) he rfl) fun σ H Q h => by
    obtain ⟨env, m, e, er, o⟩ := h
    refine oneA (f := mnK) ⟨env, m, e, er, ?_⟩
    replace o : OutG (VR X.K) W σ m ((((sem C ia).v env m.S).bind fun x S => ofO S (b1D S .list x)).bind fun x S => ofO S (b1D S .min x)) Q := o
    show OutG (VR X.K) W σ m (((sem C ia).v env m.S).bind fun x S => ofO S (mnK S x)) Q
    cases hr : (sem C ia).v env m.S with
    | ok a S =>
      rw [hr] at o
      show OutG (VR X.K) W σ m (ofO S (mnK S a)) Q
      replace o : OutG (VR X.K) W σ m ((ofO S (b1D S .list a)).bind fun x S => ofO S (b1D S .min x)) Q := o
      unfold mnK
      cases hl : b1D S .list a with
      | none => rw [hl] at o; exact o
      | some d => rw [hl] at o; exact o
    | ex c fs S => rw [hr] at o; exact o
    | er => rw [hr] at o; exact o
end
end Itp

set_option Elab.async false
set_option linter.all false
set_option autoImplicit false
set_option maxRecDepth 100000
set_option maxHeartbeats 4000000
/-! zip of two lists, of a list and a list turned round. -/
namespace Itp
open PySem L2
section
variable {prog : Program} {w : World} {A : Around} {E : Value → Shared → Prop} {s : Shared}
theorem nextOf_rev_item {it l : Addr} {i : Nat} {items : Array Value} {x : Value} {Q : Value → Shared → Prop} (hit : s.heap.IsRevIter it l (i : Int)) (hl : s.heap.IsList l items) (hx : items[i]? = some x)
    (hQ : ∀ h', h'.IsRevIter it l ((i : Int) - 1) → Heap.SameBut it s.heap h' → Q x { s with heap := h' }) : wpAny (model prog w) A (Builtin.SmallTypes.nextOf (.ref it)) Q E s := by
  obtain ⟨o, ho, hc, hd⟩ := id hit
  obtain ⟨ol, hol, _, nl, hdl⟩ := hl
  unfold Builtin.SmallTypes.nextOf
  refine wpAny_bind (wpAny_callSpecial?_slot (name := Str.ofString "__next__") hit.typeIs F.slot_lri_next
    (wpAny_call_entry F.slot_lri_next hit.typeIs F.entry_lri_next ?_ (F.args_lri_next_1 _)))
  unfold Builtin.«list_reverseiterator.__next__»
  refine wpAny_bind (wpAny_of_eq (a := (Value.ref it, [])) rfl ?_)
  try dsimp only
  refine wpAny_bind (wpAny_field ho hd (x := rawInt (i : Int)) rfl ?_)
  show wpAny _ _ (if (i : Int) < 0 then _ else _) _ _ s
  rw [if_neg (by omega)]
  show wpAny _ _ (field (.ref it) 0 >>= _) _ _ s
  refine wpAny_bind (wpAny_field ho hd (x := .ref l) rfl ?_)
  show wpAny _ _ (seqItems? (.ref l) >>= _) _ _ s
  refine wpAny_bind (wpAny_seqItems hol hdl ?_)
  simp only [Int.toNat_natCast, hx]
  refine wpAny_bind (wpAny_setField ho hd (by simp) ?_)
  first
  | refine wpAny_pure ⟨x, rfl, wpAny_pure (hQ _ ?_ (Heap.SameBut.update ..))⟩
  | refine wpAny_bind (wpAny_pure (wpAny_pure ⟨x, rfl, wpAny_pure (hQ _ ?_ (Heap.SameBut.update ..))⟩))
  exact ⟨_, Heap.get?_update_self _ ho (Obj.isFreed_of_fields (Obj.data_mapFields hd _)), (Obj.cls_mapFields ..).trans hc, by
    rw [Obj.data_mapFields hd]; simp⟩
theorem nextOf_rev_end {it l : Addr} {Q : Value → Shared → Prop} (hh : A.handled = none) (hit : s.heap.IsRevIter it l (-1))
    (hE : ∀ h' e, Heap.ExtBut it s.heap h' → (∃ o, h'.get? e = some o ∧ o.cls = .type "StopIteration") → E (.ref e) { s with heap := h' }) : wpAny (model prog w) A (Builtin.SmallTypes.nextOf (.ref it)) Q E s := by
  obtain ⟨o, ho, hc, hd⟩ := id hit
  unfold Builtin.SmallTypes.nextOf
  refine wpAny_bind (wpAny_callSpecial?_slot (name := Str.ofString "__next__") hit.typeIs F.slot_lri_next
    (wpAny_call_entry F.slot_lri_next hit.typeIs F.entry_lri_next ?_ (F.args_lri_next_1 _)))
  unfold Builtin.«list_reverseiterator.__next__»
  refine wpAny_bind (wpAny_of_eq (a := (Value.ref it, [])) rfl ?_)
  try dsimp only
  refine wpAny_bind (wpAny_field ho hd (x := rawInt (-1)) rfl ?_)
  show wpAny _ _ (if (-1 : Int) < 0 then _ else _) _ _ s
  rw [if_pos (by decide)]
  refine wpAny_bind (wpAny_rule ?_)
  first
  | show wpAny _ _ (newExc (.type "StopIteration") [] >>= _) _ _ _
  | (refine wpAny_bind ?_; show wpAny _ _ (newExc (.type "StopIteration") [] >>= _) _ _ _)
  refine wpAny_bind ?_
  simp only [newExc, newTuple]
  refine wpAny_bind (wpAny_newObj_type ?_ (by size_fits))
  refine wpAny_bind (m := firstArgMember _ _) (wpAny_of_eq (a := Value.none) (by first | rfl | (simp only [firstArgMember]; rfl)) ?_)
  refine wpAny_newObj_type ?_ (by size_fits)
  simp only [raiseNew]
  refine wpAny_bind (wpAny_handled ?_)
  first | rw [show A.in1.handled = none from hh] | rw [hh]
  refine wpAny_bind (wpAny_pure (wpAny_throw ?_))
  exact hE _ _ (((Heap.ExtBut.refl _ _).push _).push _) ⟨_, Heap.get?_push_size _ rfl, rfl⟩
end
theorem draws_rev {prog : Program} {w : World} {A : Around} (hh : A.handled = none) (it l : Addr) (hne : l ≠ it) (items : Array Value) :
    Draws prog w A it [it, l] items.size (fun i v => items[items.size - 1 - i]? = some v) (fun i h => i ≤ items.size ∧ h.IsRevIter it l ((items.size : Int) - 1 - (i : Int)) ∧ h.IsList l items) where
  live := fun _ _ st => let ⟨o, ho, _⟩ := st.2.1; ⟨o, ho⟩
  frame := fun _ _ _ x hk => ⟨x.1, x.2.1.at fun o e => hk it (by simp) o e, x.2.2.at fun o e => hk l (by simp) o e⟩
  item := fun i s Q E hi x hQ => by
    have e : (items.size : Int) - 1 - (i : Int) = ((items.size - 1 - i : Nat) : Int) := by omega
    have hit := x.2.1
    rw [e] at hit
    have hx : items[items.size - 1 - i]? = some (items[items.size - 1 - i]'(by omega)) := Array.getElem?_eq_getElem (by omega)
    refine nextOf_rev_item hit x.2.2 hx fun h' hit' hs' => ?_
    have e2 : ((items.size - 1 - i : Nat) : Int) - 1 = (items.size : Int) - 1 - ((i + 1 : Nat) : Int) := by omega
    rw [e2] at hit'
    exact hQ _ h' s.toks hx ⟨hi, hit', x.2.2.at fun o eo => (hs'.2 l hne).trans eo⟩ hs'
  done := fun s Q E x hE => by
    have e : (items.size : Int) - 1 - (items.size : Int) = -1 := by omega
    have hit := x.2.1
    rw [e] at hit
    exact nextOf_rev_end hh hit hE
/-! ### zip(a list, reversed(a list)) -/
section
variable {prog : Program} {w : World} {A : Around} {E : Value → Shared → Prop} {s : Shared}
abbrev zrO1 (l1 : Addr) : Obj := { cls := .type "list_iterator", data := .fields #[.ref l1, .int 0 0] }
abbrev zrT (h : Heap) (l1 r : Addr) : Heap := (h.push (zrO1 l1)).push { cls := .type "tuple", data := .seq #[.ref h.objs.size, .ref r] }
abbrev zrO (h : Heap) (l1 r : Addr) : Heap := (zrT h l1 r).push { cls := .type "tuple", data := .seq #[.none, .none] }
abbrev zrZ (h : Heap) (l1 r : Addr) : Heap := (zrO h l1 r).push { cls := .type "zip", data := .fields #[.none, .bool false, .bool false, .ref (h.push (zrO1 l1)).objs.size, .ref (zrT h l1 r).objs.size] }
theorem meets_zip_newR (l1 r l2 : Addr) (xs : Array Value) (k : Int) :
    Meets (Builtin.«zip.__new__» ⟨[.type "zip", .ref l1, .ref r], []⟩) (fun _ R s => (s.heap.IsList l1 xs ∧ s.heap.IsRevIter r l2 k) ∧
      R (.ok (.ret (.ref (zrO s.heap l1 r).objs.size))) { s with heap := zrZ s.heap l1 r }) :=
  .of_wp fun prog w A R s h => by
    obtain ⟨hp, g, d, tk, os⟩ := s; obtain ⟨⟨h1, h2⟩, h⟩ := h
    have hsub := sub_zip
    have q1 : ∀ {A' : Around} {E : Value → Shared → Prop} {Q : Value → Shared → Prop}, Q (.ref hp.objs.size) ⟨(hp.push (zrO1 l1)), g, d, tk, os⟩ → wpAny (model prog w) A' (pyIter (.ref l1)) Q E ⟨hp, g, d, tk, os⟩ :=
      fun q => wpAny_pyIter_list (s := ⟨hp, g, d, tk, os⟩) h1 q
    have q2 : ∀ {A' : Around} {E : Value → Shared → Prop} {Q : Value → Shared → Prop}, Q (.ref r) ⟨(hp.push (zrO1 l1)), g, d, tk, os⟩ → wpAny (model prog w) A' (pyIter (.ref r)) Q E ⟨(hp.push (zrO1 l1)), g, d, tk, os⟩ :=
      fun q => wpAny_pyIter_revIter (s := ⟨(hp.push (zrO1 l1)), g, d, tk, os⟩) (h2.at fun o e => Heap.get?_push_of_some _ e) q
    wp_walk using q1, q2
    exact ⟨_, rfl, h⟩
theorem call_zipR {l1 r l2 : Addr} {xs : Array Value} {k : Int} {Q : Value → Shared → Prop} (h1 : s.heap.IsList l1 xs) (h2 : s.heap.IsRevIter r l2 k)
    (h : ∀ h', IsZip h' (s.heap.objs.size + 3) (s.heap.objs.size + 1) (s.heap.objs.size + 2) .none → IsTupOf2 h' (s.heap.objs.size + 1) (.ref s.heap.objs.size) (.ref r) →
      IsTupOf2 h' (s.heap.objs.size + 2) .none .none → h'.get? s.heap.objs.size = some (zrO1 l1) → h'.objs.size = s.heap.objs.size + 4 →
      (∀ c o, s.heap.get? c = some o → h'.get? c = some o) → Q (.ref (s.heap.objs.size + 3)) { s with heap := h' }) :
    wpAny (model prog w) A (call (.type "zip") [.ref l1, .ref r]) Q E s := by
  refine callType_new F.called_zip (by decide) (F.typeCall_zip_2 _ _) (F.newCall_zip_2 _ _) (fun obj => F.args_object_init_3 obj _ _) F.entry_zip_new
    (meets_zip_newR l1 r l2 xs k) ⟨⟨h1, h2⟩, ?_⟩
  have z1 : (s.heap.push (zrO1 l1)).objs.size = s.heap.objs.size + 1 := by rw [Heap.size_push]
  have zT : (zrT s.heap l1 r).objs.size = s.heap.objs.size + 2 := by rw [Heap.size_push, z1]
  have zO : (zrO s.heap l1 r).objs.size = s.heap.objs.size + 3 := by rw [Heap.size_push, zT]
  have zZ : (zrZ s.heap l1 r).objs.size = s.heap.objs.size + 4 := by rw [Heap.size_push, zO]
  have gZ : (zrZ s.heap l1 r).get? (zrO s.heap l1 r).objs.size = some { cls := .type "zip", data := .fields #[.none, .bool false, .bool false, .ref (s.heap.push (zrO1 l1)).objs.size, .ref (zrT s.heap l1 r).objs.size] } := Heap.get?_push_size _ rfl
  have gO : (zrZ s.heap l1 r).get? (zrT s.heap l1 r).objs.size = some { cls := .type "tuple", data := .seq #[.none, .none] } := Heap.get?_push_of_some _ (Heap.get?_push_size _ rfl)
  have gT : (zrZ s.heap l1 r).get? (s.heap.push (zrO1 l1)).objs.size = some { cls := .type "tuple", data := .seq #[.ref s.heap.objs.size, .ref r] } := Heap.get?_push_of_some _ (Heap.get?_push_of_some _ (Heap.get?_push_size _ rfl))
  have g1 : (zrZ s.heap l1 r).get? s.heap.objs.size = some (zrO1 l1) := Heap.get?_push_of_some _ (Heap.get?_push_of_some _ (Heap.get?_push_of_some _ (Heap.get?_push_size _ rfl)))
  rw [zO, zT, z1] at gZ
  rw [zT] at gO
  rw [z1] at gT
  show _ ∧ _
  rw [zO]
  exact ⟨⟨_, gZ, rfl⟩, h _ gZ gT gO g1 zZ fun c o e => Heap.get?_push_of_some _ (Heap.get?_push_of_some _ (Heap.get?_push_of_some _ (Heap.get?_push_of_some _ e)))⟩
end
def ItzR (a b : Addr) (xs ys : List V) : It :=
  ⟨fun i H => (H a = some (.lst xs) ∧ H b = some (.lst ys)) ∧ i < xs.length ∧ i < ys.length,
    fun i H v H' => ∃ Tt x y, v = .ref Tt ∧ H Tt = none ∧ H' = upd H Tt (.tup [x, y]) ∧ xs[i]? = some x ∧ ys.reverse[i]? = some y,
    fun i H => (H a = some (.lst xs) ∧ H b = some (.lst ys)) ∧ (xs.length ≤ i ∨ ys.length ≤ i)⟩
structure ZrAp (z TI TO i1 i2 : Addr) : Prop where
  TIz : TI ≠ z
  TOz : TO ≠ z
  TITO : TI ≠ TO
  TIi1 : TI ≠ i1
  TIi2 : TI ≠ i2
  zi1 : z ≠ i1
  zi2 : z ≠ i2
  Ti1 : TO ≠ i1
  Ti2 : TO ≠ i2
  i12 : i1 ≠ i2
theorem turn_zipR {P : Program} {w : World} {K : PySem.W.Frag} {elts : List Expr} {kk : Nat} {tpos : Pos} {a b z TI TO i1 i2 : Addr} (xs ys : List V) (D : ZrAp z TI TO i1 i2) :
    Turn P w K (.Tuple elts kk tpos) (ItzR a b xs ys) [z, TI, TO, i1, i2] z (fun i h => i ≤ xs.length ∧ i ≤ ys.length ∧ IsZip h z TI TO .none ∧ IsTupOf2 h TI (.ref i1) (.ref i2) ∧ (∃ x y, IsTupOf2 h TO x y) ∧ h.IsListIter i1 a i ∧ h.IsRevIter i2 b ((ys.length : Int) - 1 - (i : Int))) where
  mem := by simp
  obj := fun i h st c hc => by
    obtain ⟨_, _, hz, hTI, ⟨x, y, hTO⟩, ⟨o1, e1, _, d1⟩, ⟨o2, e2, _, d2⟩⟩ := st
    have e' : c = z ∨ c = TI ∨ c = TO ∨ c = i1 ∨ c = i2 := by simpa using hc
    rcases e' with q | q | q | q | q
    · rw [q]; exact ⟨_, hz, fun v q => nomatch q⟩
    · rw [q]; exact ⟨_, hTI, fun v q => nomatch q⟩
    · rw [q]; exact ⟨_, hTO, fun v q => nomatch q⟩
    · rw [q]; exact ⟨o1, e1, fun v q => by rw [d1] at q; cases q⟩
    · rw [q]; exact ⟨o2, e2, fun v q => by rw [d2] at q; cases q⟩
  keep := fun i h h' st k => by
    obtain ⟨n1, n2, hz, hTI, ⟨x, y, hTO⟩, h1, h2⟩ := st
    exact ⟨n1, n2, k z (by simp) _ hz, k TI (by simp) _ hTI, ⟨x, y, k TO (by simp) _ hTO⟩, h1.at fun o q => k i1 (by simp) o q, h2.at fun o q => k i2 (by simp) o q⟩
  item := by
    intro X hP hw hK hc i pins s σ H E I hf st hg
    subst hP hw hK
    obtain ⟨n1, n2, hz, hTI, ⟨x0, y0, hTO⟩, h1, h2⟩ := st
    obtain ⟨⟨hqx, hqy⟩, hx, hy⟩ := hg
    have hh : X.A.in1.handled = none := I.ok.hd hc
    obtain ⟨its, rv, p, _⟩ := I.list (SqL.of hqx)
    obtain ⟨its2, rv2, p2, _⟩ := I.list (SqL.of hqy)
    have l1 : its.toArray.size = xs.length := by rw [List.size_toArray]; exact rv.length.symm
    have l2 : its2.toArray.size = ys.length := by rw [List.size_toArray]; exact rv2.length.symm
    have F1 := hf i1 (by simp)
    have F2 := hf i2 (by simp)
    have Fz := hf z (by simp)
    have FT := hf TO (by simp)
    have nea : a ≠ i1 := ne_of_none hqx F1.1
    have neb : b ≠ i2 := ne_of_none hqy F2.1
    have D1 := Draws.list (prog := X.prog) (w := X.w) hh i1 a nea its.toArray
    have D2 := draws_rev (prog := X.prog) (w := X.w) hh i2 b neb its2.toArray
    rw [l1] at D1
    rw [l2] at D2
    have S : ZipSep2 z TI TO i1 i2 [i1, a] [i2, b] :=
      { TIz := D.TIz, TOz := D.TOz, TITO := D.TITO, TIi1 := D.TIi1, mem1 := by simp, zf1 := by simp [D.zi1, (ne_of_none hqx Fz.1).symm], Tf1 := by simp [D.Ti1, (ne_of_none hqx FT.1).symm],
        TIi2 := D.TIi2, mem2 := by simp, zf2 := by simp [D.zi2, (ne_of_none hqy Fz.1).symm], Tf2 := by simp [D.Ti2, (ne_of_none hqy FT.1).symm],
        sep1_2 := by simp [D.i12, (ne_of_none hqy F1.1).symm], sep2_1 := by simp [D.i12.symm, (ne_of_none hqx F2.1).symm] }
    have hzl : z < s.heap.objs.size := Heap.lt_size hz
    refine wpAny_pyNext_zipD2_item S D1 D2 hz hTI hTO ⟨h1, p.isList⟩ ⟨n2, h2, p2.isList⟩ hx hy fun u u2 h' tk hu hu2 z' TO' h1' h2' hT hsz hk => ?_
    have hu : its[i]? = some u := by simpa using hu
    have hu2 : its2[ys.length - 1 - i]? = some u2 := by simpa using hu2
    obtain ⟨x, ex, ru⟩ : ∃ x, xs[i]? = some x ∧ RelV x u := by
      obtain ⟨v, hv, r⟩ := rv.get (List.getElem?_eq_getElem hx)
      rw [hu] at hv
      cases hv
      exact ⟨_, List.getElem?_eq_getElem hx, r⟩
    obtain ⟨y, ey, ru2⟩ : ∃ y, ys.reverse[i]? = some y ∧ RelV y u2 := by
      have hj : ys.length - 1 - i < ys.length := by omega
      obtain ⟨v, hv, r⟩ := rv2.get (List.getElem?_eq_getElem hj)
      rw [hu2] at hv
      cases hv
      exact ⟨_, by rw [List.getElem?_reverse hy]; exact List.getElem?_eq_getElem hj, r⟩
    refine ⟨_, rfl, wpAny_letOwnedTupleGo_zip (s := { s with heap := h', toks := tk }) z' fun h'' z'' sb => ?_⟩
    have hT2 : h''.get? s.heap.objs.size = some { cls := .type "tuple", data := .seq #[u, u2] } := (sb.2 _ (Nat.ne_of_gt hzl)).trans hT
    have new : ObjOk X.prog X.w (upd H s.heap.objs.size (.tup [x, y])) h'' s.heap.objs.size (.tup [x, y]) :=
      ⟨by show 2 ≤ sizeLine; decide, [u, u2], .cons ru (.cons ru2 .nil), ⟨_, hT2, rfl, _, rfl⟩⟩
    have I1 : L2.Inv X pins σ (upd H s.heap.objs.size (.tup [x, y])) { s with heap := h'', toks := tk } :=
      I.turnedNew (t' := tk) (ch := [z, TI, TO, i1, i2]) (fun c o hb q => (sb.2 c (fun q' => hb (by simp [q']))).trans (hk c o (fun q' => hb (by simp [q'])) (fun q' => hb (by simp [q'])) (fun q' => hb (by simp [q'])) (fun q' => hb (by simp [q'])) q)) hf (Nat.le_refl _) new
    refine ⟨.ref s.heap.objs.size, _, I1, rfl, ⟨_, x, y, rfl, I.hok.fresh (Nat.le_refl _), rfl, ex, ey⟩, ⟨hx, hy, z'', ?_, ⟨u, u2, ?_⟩, ?_, ?_⟩, fun c hcm => ?_⟩
    · exact (sb.2 _ D.TIz).trans (hk _ _ D.TIz D.TITO D.TIi1 D.TIi2 hTI)
    · exact (sb.2 _ D.TOz).trans TO'
    · exact h1'.1.at fun o q => (sb.2 _ D.zi1.symm).trans q
    · exact h2'.2.1.at fun o q => (sb.2 _ D.zi2.symm).trans q
    · have hlt : c < s.heap.objs.size := by
        have e' : c = z ∨ c = TI ∨ c = TO ∨ c = i1 ∨ c = i2 := by simpa using hcm
        rcases e' with q | q | q | q | q
        · rw [q]; exact hzl
        · rw [q]; exact Heap.lt_size hTI
        · rw [q]; exact Heap.lt_size hTO
        · rw [q]; obtain ⟨_, e1, _⟩ := h1; exact Heap.lt_size e1
        · rw [q]; obtain ⟨_, e2, _⟩ := h2; exact Heap.lt_size e2
      rw [upd_ne (Nat.ne_of_lt hlt)]
      exact (hf c hcm).1
  done := by
    intro X hP hw hK hc i pins s σ H E I hf st hg
    subst hP hw hK
    obtain ⟨n1, n2, hz, hTI, ⟨x0, y0, hTO⟩, h1, h2⟩ := st
    obtain ⟨⟨hqx, hqy⟩, hend⟩ := hg
    have hh : X.A.in1.handled = none := I.ok.hd hc
    obtain ⟨its, rv, p, _⟩ := I.list (SqL.of hqx)
    obtain ⟨its2, rv2, p2, _⟩ := I.list (SqL.of hqy)
    have l1 : its.toArray.size = xs.length := by rw [List.size_toArray]; exact rv.length.symm
    have l2 : its2.toArray.size = ys.length := by rw [List.size_toArray]; exact rv2.length.symm
    have F1 := hf i1 (by simp)
    have F2 := hf i2 (by simp)
    have Fz := hf z (by simp)
    have FT := hf TO (by simp)
    have nea : a ≠ i1 := ne_of_none hqx F1.1
    have neb : b ≠ i2 := ne_of_none hqy F2.1
    have D1 := Draws.list (prog := X.prog) (w := X.w) hh i1 a nea its.toArray
    have D2 := draws_rev (prog := X.prog) (w := X.w) hh i2 b neb its2.toArray
    rw [l1] at D1
    rw [l2] at D2
    have S : ZipSep2 z TI TO i1 i2 [i1, a] [i2, b] :=
      { TIz := D.TIz, TOz := D.TOz, TITO := D.TITO, TIi1 := D.TIi1, mem1 := by simp, zf1 := by simp [D.zi1, (ne_of_none hqx Fz.1).symm], Tf1 := by simp [D.Ti1, (ne_of_none hqx FT.1).symm],
        TIi2 := D.TIi2, mem2 := by simp, zf2 := by simp [D.zi2, (ne_of_none hqy Fz.1).symm], Tf2 := by simp [D.Ti2, (ne_of_none hqy FT.1).symm],
        sep1_2 := by simp [D.i12, (ne_of_none hqy F1.1).symm], sep2_1 := by simp [D.i12.symm, (ne_of_none hqx F2.1).symm] }
    exact wpAny_pyNext_zipD2_end S D1 D2 hz hTI hTO ⟨h1, p.isList⟩ ⟨n2, h2, p2.isList⟩ n1 n2 (by omega) fun h' tk hk => ⟨rfl, I.turnedL (t' := tk) (ch := [z, TI, TO, i1, i2]) (fun c o hb q =>
      hk c o (fun q' => hb (by simp [q'])) (fun q' => hb (by simp [q'])) (fun q' => hb (by simp [q'])) (fun q' => hb (by simp [q'])) q) hf⟩
  self := fun A i s Q E st h => wpAny_pyIter_zip st.2.2.1 h
section
variable {X : Cx} {T : Ct} {C : CallF} {W : WX} {a b : Expr} {ia ib : E} {p p2 pos pos2 tpos : Pos} {elts : List Expr} {kk : Nat}
theorem pi_zipR {ta : TE} {tb : TE} (hg : Gl X "zip") (hm : X.mg "zip" = none) (hg2 : Gl X "reversed") (hm2 : X.mg "reversed" = none) (ha : PE X a ta) (hb : PE X b tb)
    (hs : starEach [a, .Call (.Name "reversed" p2) [b] [] pos2] X.env = (false, eval a X.env) :: starEach [.Call (.Name "reversed" p2) [b] [] pos2] X.env := by rfl)
    (hs1 : starEach [.Call (.Name "reversed" p2) [b] [] pos2] X.env = (false, eval (.Call (.Name "reversed" p2) [b] [] pos2) X.env) :: starEach [] X.env := by rfl)
    (hs2 : starEach [b] X.env = (false, eval b X.env) :: starEach [] X.env := by rfl) :
    PI X (.Tuple elts kk tpos) (.Call (.Name "zip" p) [a, .Call (.Name "reversed" p2) [b] [] pos2] [] pos) (fun σ H R => ta σ H fun u H1 => tb σ H1 fun v H2 => ∃ a b xs ys, u = .ref a ∧ v = .ref b ∧ H2 a = some (.lst xs) ∧ H2 b = some (.lst ys) ∧ R (ItzR a b xs ys) H2) := by
  refine ⟨fun pins s σ H R I h => ?_⟩
  refine PyProof.Rows.Call_ (ld_blt I hg hm PyProof.Rows.boot_zip (PyProof.Rows.callWith_type1 (PyProof.Rows.args_cons (thn (ha.run pins s σ H _ I h) fun u s1 ⟨v, H1, I1, r1, q1⟩ => ?_) hs) hs (by rw [hs1]; rfl)))
  refine PyProof.Rows.args_cons (PyProof.Rows.Call_ (ld_blt I1 hg2 hm2 PyProof.Rows.boot_reversed (PyProof.Rows.callWith_type1 (PyProof.Rows.args_cons (thn (hb.run pins s1 σ H1 _ I1 q1) fun u2 s2 ⟨v2, H2, I2, r2, q2⟩ => PyProof.Rows.args_nil ?_) hs2) hs2 rfl))) hs1
  obtain ⟨ad, bd, xs, ys, rfl, rfl, hqx, hqy, q⟩ := q2
  obtain rfl : u = Value.ref ad := r1
  obtain rfl : u2 = Value.ref bd := r2
  obtain ⟨its, rv, pl, _⟩ := I2.list (SqL.of hqx)
  obtain ⟨its2, rv2, pl2, _⟩ := I2.list (SqL.of hqy)
  refine call_reversed_list pl2.isList (PyProof.Rows.args_nil ?_)
  have l2 : its2.toArray.size = ys.length := by rw [List.size_toArray]; exact rv2.length.symm
  have k0 : ∀ c o, s2.heap.get? c = some o → (s2.heap.push (revObj bd ((its2.toArray.size : Int) - 1))).get? c = some o := fun c o e => Heap.get?_push_of_some _ e
  have I3 : L2.Inv X pins σ H2 { s2 with heap := s2.heap.push (revObj bd ((its2.toArray.size : Int) - 1)) } := I2.kept (t' := s2.toks) k0
  have hr : (s2.heap.push (revObj bd ((its2.toArray.size : Int) - 1))).IsRevIter s2.heap.objs.size bd ((its2.toArray.size : Int) - 1) := ⟨_, Heap.get?_push_size _ rfl, rfl, rfl⟩
  have hsz1 : (s2.heap.push (revObj bd ((its2.toArray.size : Int) - 1))).objs.size = s2.heap.objs.size + 1 := Heap.size_push ..
  refine call_zipR (s := { s2 with heap := s2.heap.push (revObj bd ((its2.toArray.size : Int) - 1)) }) (pl.isList.push _) hr fun h' hz hTI hTO h1 hsz hk => wpAny_pyIter_zip hz ?_
  have hsz1' : ({ s2 with heap := s2.heap.push (revObj bd ((its2.toArray.size : Int) - 1)) } : Shared).heap.objs.size = s2.heap.objs.size + 1 := hsz1
  rw [hsz1'] at hz hTI hTO h1 ⊢
  have I4 : L2.Inv X pins σ H2 { s2 with heap := h' } := I3.kept (t' := s2.toks) hk
  have ap : ZrAp (s2.heap.objs.size + 1 + 3) (s2.heap.objs.size + 1 + 1) (s2.heap.objs.size + 1 + 2) (s2.heap.objs.size + 1) s2.heap.objs.size :=
    ⟨show (_ : Nat) ≠ _ by omega, show (_ : Nat) ≠ _ by omega, show (_ : Nat) ≠ _ by omega, show (_ : Nat) ≠ _ by omega, show (_ : Nat) ≠ _ by omega, show (_ : Nat) ≠ _ by omega, show (_ : Nat) ≠ _ by omega, show (_ : Nat) ≠ _ by omega, show (_ : Nat) ≠ _ by omega, show (_ : Nat) ≠ _ by omega⟩
  refine ⟨s2.heap.objs.size + 1 + 3, [s2.heap.objs.size + 1 + 3, s2.heap.objs.size + 1 + 1, s2.heap.objs.size + 1 + 2, s2.heap.objs.size + 1, s2.heap.objs.size], _, _, H2, rfl, I4, turn_zipR xs ys ap, ⟨Nat.zero_le _, Nat.zero_le _, hz, hTI, ⟨_, _, hTO⟩, ⟨_, h1, rfl, rfl⟩, ?_⟩, fun c hc => ?_, q⟩
  · have := hr.at (h' := h') fun o e => hk _ o e
    rw [l2] at this
    simpa using this
  · have hle : s2.heap.objs.size ≤ c := by
      have e' : c = s2.heap.objs.size + 1 + 3 ∨ c = s2.heap.objs.size + 1 + 1 ∨ c = s2.heap.objs.size + 1 + 2 ∨ c = s2.heap.objs.size + 1 ∨ c = s2.heap.objs.size := by simpa using hc
      rcases e' with z | z | z | z | z
      · rw [z]; exact show (_ : Nat) ≤ _ by omega
      · rw [z]; exact show (_ : Nat) ≤ _ by omega
      · rw [z]; exact show (_ : Nat) ≤ _ by omega
      · rw [z]; exact show (_ : Nat) ≤ _ by omega
      · rw [z]; exact Nat.le_refl _
    exact I2.fpOk hle (I2.hok.fresh hle)
theorem zip_get {xs ys : List D} {i : Nat} {x : D} (h : (zipD xs ys)[i]? = some x) : ∃ c d, xs[i]? = some c ∧ ys[i]? = some d ∧ x = .tuple [c, d] := by
  unfold zipD at h
  rw [List.getElem?_map] at h
  obtain ⟨q, hq, rfl⟩ := Option.map_eq_some_iff.mp h
  rw [List.getElem?_zip_eq_some] at hq
  exact ⟨q.1, q.2, hq.1, hq.2, rfl⟩
theorem zip_len (xs ys : List D) : (zipD xs ys).length = min xs.length ys.length := by
  unfold zipD
  rw [List.length_map, List.length_zip]
theorem it_zipR {m : Mem X.prog X.w T} {pa pb : Addr} {xs ys : List D} {us vs : List V} (h1 : m.H pa = some (.lst us)) (n1 : ¬ m.M pa) (r1 : DrAll X.prog X.w T m.M m.H xs us) (h2 : m.H pb = some (.lst vs)) (n2 : ¬ m.M pb) (r2 : DrAll X.prog X.w T m.M m.H ys vs) :
    ItR X.prog X.w T (RwR X.prog X.w T X.K) m (zipD xs ys.reverse) (ItzR pa pb us vs) := by
  intro m' f i
  have r1' := DrAll.mono f.keep _ _ r1
  have r2' := DrAll.mono f.keep _ _ r2
  have l1 := r1.length
  have l2 := r2.length
  have g1 := (f.keep _ _ h1 n1).1
  have g2 := (f.keep _ _ h2 n2).1
  refine ⟨fun x hx => ?_, fun hi => ⟨⟨g1, g2⟩, ?_⟩⟩
  · obtain ⟨c, d, hc, hd, rfl⟩ := zip_get hx
    have hic := (List.getElem?_eq_some_iff.mp hc).1
    have hid := (List.getElem?_eq_some_iff.mp hd).1
    rw [List.length_reverse] at hid
    obtain ⟨u, hu, hcu⟩ := r1'.get hc
    rw [List.getElem?_reverse hid] at hd
    obtain ⟨v, hv, hdv⟩ := r2'.get hd
    refine ⟨⟨⟨g1, g2⟩, by omega, by omega⟩, ?_⟩
    rintro y H' ⟨Tt, z1, z2, rfl, hT, rfl, e1, e2⟩
    rw [hu] at e1
    cases e1
    rw [List.getElem?_reverse (by omega), ← l2, hv] at e2
    cases e2
    exact ⟨m'.add Tt (.tup [u, v]) hT, rfl, m'.add_fut hT, rfl, _, Tt, _, rfl, rfl, .inl (.inl upd_same), .cons (hcu.add hT) (.cons (hdv.add hT) .nil)⟩
  · rw [zip_len, List.length_reverse] at hi
    omega
theorem it_zipL {m : Mem X.prog X.w T} {pa pb : Addr} {xs ys : List D} {us vs : List V} (h1 : m.H pa = some (.lst us)) (n1 : ¬ m.M pa) (r1 : DrAll X.prog X.w T m.M m.H xs us) (h2 : m.H pb = some (.lst vs)) (n2 : ¬ m.M pb) (r2 : DrAll X.prog X.w T m.M m.H ys vs) :
    ItR X.prog X.w T (RwR X.prog X.w T X.K) m (zipD xs ys) (L2.Itz X.K pa pb) := by
  intro m' f i
  have r1' := DrAll.mono f.keep _ _ r1
  have r2' := DrAll.mono f.keep _ _ r2
  have l1 := r1.length
  have l2 := r2.length
  have g1 : SqL X.K m'.H pa us := SqL.of (f.keep _ _ h1 n1).1
  have g2 : SqL X.K m'.H pb vs := SqL.of (f.keep _ _ h2 n2).1
  refine ⟨fun x hx => ?_, fun hi => ⟨us, vs, g1, g2, ?_⟩⟩
  · obtain ⟨c, d, hc, hd, rfl⟩ := zip_get hx
    obtain ⟨u, hu, hcu⟩ := r1'.get hc
    obtain ⟨v, hv, hdv⟩ := r2'.get hd
    refine ⟨⟨us, vs, u, v, g1, g2, hu, hv⟩, ?_⟩
    rintro y H' ⟨Tt, z1, z2, rfl, hT, rfl, e1, e2⟩
    have e1 := e1 us g1
    have e2 := e2 vs g2
    rw [hu] at e1
    cases e1
    rw [hv] at e2
    cases e2
    exact ⟨m'.add Tt (.tup [u, v]) hT, rfl, m'.add_fut hT, rfl, _, Tt, _, rfl, rfl, .inl (.inl upd_same), .cons (hcu.add hT) (.cons (hdv.add hT) .nil)⟩
  · rw [zip_len] at hi
    omega
theorem i_zip (hg : Gl X "zip") (hm : X.mg "zip" = none) (ha : SE X T C W a ia) (hb : SE X T C W b ib) (hs : starEach [a, b] X.env = (false, eval a X.env) :: starEach [b] X.env := by rfl) (hs2 : starEach [b] X.env = [(false, eval b X.env)] := by rfl) :
    SIr X T C W (.Tuple elts kk tpos) (.Call (.Name "zip" p) [a, b] [] pos) (.zip ia ib) := by
  refine imI (pi_zip (elts := elts) (kk := kk) (tpos := tpos) hg hm (s_acons ha (s_acons hb s_anil hs2) hs) hs (by rw [hs2]; rfl)) fun σ H R h => ?_
  obtain ⟨env, m, rfl, er, o⟩ := h
  refine ⟨env, m, rfl, er, (bind2A (md := sem C ia) (nd := sem C ib) (f := zipI false) o).imp ?_⟩
  rintro ys H1 ⟨y, z, u, v, m1, rfl, f1, rfl, hv, hw, q1⟩
  unfold zipI at q1
  split at q1
  · obtain ⟨pa, us, rfl, h1, n1, r1⟩ := Dr.lst_inv hv
    obtain ⟨pb, vs, rfl, h2, n2, r2⟩ := Dr.lst_inv hw
    exact ⟨pa, pb, us, vs, rfl, SqL.of h1, SqL.of h2, q1.get (it_zipL h1 n1 r1 h2 n2 r2)⟩
  · exact q1.elim
theorem i_zipR (hg : Gl X "zip") (hm : X.mg "zip" = none) (hg2 : Gl X "reversed") (hm2 : X.mg "reversed" = none) (ha : SE X T C W a ia) (hb : SE X T C W b ib)
    (hs : starEach [a, .Call (.Name "reversed" p2) [b] [] pos2] X.env = (false, eval a X.env) :: starEach [.Call (.Name "reversed" p2) [b] [] pos2] X.env := by rfl)
    (hs1 : starEach [.Call (.Name "reversed" p2) [b] [] pos2] X.env = (false, eval (.Call (.Name "reversed" p2) [b] [] pos2) X.env) :: starEach [] X.env := by rfl)
    (hs2 : starEach [b] X.env = (false, eval b X.env) :: starEach [] X.env := by rfl) :
    SIr X T C W (.Tuple elts kk tpos) (.Call (.Name "zip" p) [a, .Call (.Name "reversed" p2) [b] [] pos2] [] pos) (.zipR ia ib) := by
  refine imI (pi_zipR (elts := elts) (kk := kk) (tpos := tpos) hg hm hg2 hm2 ha hb hs hs1 hs2) fun σ H R h => ?_
  obtain ⟨env, m, rfl, er, oo⟩ := h
  replace oo : OutG (ItR X.prog X.w T (RwR X.prog X.w T X.K)) W σ m (((sem C ia).v env m.S).bind fun x S => ((sem C ib).v env S).bind fun y S => zipI true x y S) R := oo
  refine ⟨env, m, rfl, er, (OutG.bind (R := VR X.K) (R' := ItR X.prog X.w T (RwR X.prog X.w T X.K)) (r := (sem C ia).v env m.S) oo).imp ?_⟩
  rintro y H1 ⟨u, m1, f1, rfl, hv, o1⟩
  refine ⟨env, m1, rfl, er.mono f1, (OutG.bind (R := VR X.K) (R' := ItR X.prog X.w T (RwR X.prog X.w T X.K)) (r := (sem C ib).v env m1.S) o1).imp ?_⟩
  rintro z H2 ⟨v, m2, f2, rfl, hz, q⟩
  have hv := hv.mono f2
  unfold zipI at q
  split at q
  · obtain ⟨pa, us, rfl, h1, n1, r1⟩ := Dr.lst_inv hv
    obtain ⟨pb, vs, rfl, h2, n2, r2⟩ := Dr.lst_inv hz
    exact ⟨pa, pb, us, vs, rfl, rfl, h1, h2, q.get (it_zipR h1 n1 r1 h2 n2 r2)⟩
  · exact q.elim
end
end Itp

set_option Elab.async false
set_option linter.all false
set_option autoImplicit false
set_option maxRecDepth 100000
set_option maxHeartbeats 4000000
/-! str.find, str.join, an own len. -/
namespace Itp
open PySem L2
section
variable {X : Cx} {T : Ct} {C : CallF} {W : WX} {a b e o : Expr} {es : List Expr} {ia ib io : E} {is : List E} {id : String} {name : Str} {p pos apos cpos : Pos}
def tyS : V → Hp → Prop := fun x _ => ∃ z, x = .str z
theorem tyS_ok : TyP X "str" tyS := by
  rintro pins s σ H x v I r ⟨z, rfl⟩
  obtain ⟨t, rfl⟩ := r
  exact ⟨rfl, fun a ea => by cases ea⟩
theorem m_find : MtR X "str.find" (rM X T .find) := by
  intro pins s σ H x xs v us Q I rx rxs h
  obtain ⟨m, a, as, W, σ', rfl, va, vs, o⟩ := h
  replace o : OutD m (findD a as) Q := ask_out rfl o
  unfold findD at o
  split at o
  · split at o
    · cases vs with
      | cons hv r =>
        cases r
        cases Dr.str_inv hv
        cases Dr.str_inv va
        exact mt_find pins s σ _ _ _ v us Q I rx rxs ⟨_, _, rfl, rfl, OutD.get o (.int _)⟩
    · exact o.elim
  · exact o.elim
theorem allS_vals {P : Program} {w : World} {M : Addr → Prop} {H : Hp} : ∀ {ds : List D} {vs : List V}, DrAll P w T M H ds vs → allStrs ds = true → vs = (strsOf ds).map V.str
  | [], _, h, _ => by cases h; rfl
  | .str x :: r, _, h, e => by
    cases h with
    | cons p q =>
      cases Dr.str_inv p
      have := allS_vals q e
      subst this
      rfl
  | .none :: _, _, _, e => by cases e
  | .bool _ :: _, _, _, e => by cases e
  | .int _ :: _, _, _, e => by cases e
  | .list _ :: _, _, _, e => by cases e
  | .tuple _ :: _, _, _, e => by cases e
  | .dict _ :: _, _, _, e => by cases e
theorem m_join : MtR X "str.join" (rM X T .join) := by
  intro pins s σ H x xs v us Q I rx rxs h
  obtain ⟨m, a, as, W, σ', rfl, va, vs, o⟩ := h
  replace o : OutD m (joinD m.S a as) Q := ask_out rfl o
  unfold joinD at o
  split at o
  · split at o
    · rename_i hw
      split at o
      · rename_i hc
        rw [Bool.and_eq_true] at hc
        cases vs with
        | cons hv r =>
          cases r
          cases Dr.str_inv va
          obtain ⟨p, ys, rfl, h1, h2⟩ := lst_of hv hw
          have e := allS_vals h2 hc.1
          subst e
          have := Nat.ble_eq.mp hc.2
          exact mt_join pins s σ _ _ _ v us Q I rx rxs ⟨_, p, _, rfl, rfl, .inl (SqL.of h1), by omega, OutD.get o (.str _)⟩
      · exact o.elim
    · exact o.elim
  · exact o.elim
theorem recvS {m : Mem X.prog X.w T} {mt : Mt} {u : Vl} {y : V} (hm : mt = .find ∨ mt = .join) (hv : VR X.K m u y) (h : recvOk m.S mt u = true) : tyS y m.H := by
  have : ∃ z, u = .d (.str z) := by
    rcases hm with rfl | rfl <;> cases u with
    | d x => cases x <;> first | exact ⟨_, rfl⟩ | cases h
    | r n => cases h
    | s n => cases h
    | x n k => cases h
  obtain ⟨z, rfl⟩ := this
  cases Dr.str_inv hv
  exact ⟨z, rfl⟩
theorem s_mthS {mt : Mt} (hmt : mt = .find ∨ mt = .join) (slot : Slot "str" name id) (hty : typeOf (.builtin id) = pure (.type "method_descriptor")) (hr : MtR X id (rM X T mt)) (ho : SE X T C W o io) (ha : SA X T C W (e :: es) is)
    (hbase : attributeBase o name X.env (eval o X.env) = eval o X.env := by rfl)
    (hfew : ((backTo cpos (starEach (e :: es) X.env)).all (fun x => !x.1) && (backToKw cpos (keywordEach [] X.env)).all (fun x => x.1.isSome)
      && decide ((e :: es).length + ([] : List Keyword).length + (if ([] : List Keyword).isEmpty then 0 else 1) < 30)) = true := by rfl)
    (hline : (apos.endLine == cpos.line) = true := by rfl) (hs : starEach (e :: es) X.env = (false, eval e X.env) :: starEach es X.env := by rfl) (hplain : (backTo cpos (starEach es X.env)).any (·.1) = false := by rfl) :
    SE X T C W (.Call (.Attribute o name apos) (e :: es) [] cpos) (.mth mt io is) := by
  refine imE (pe_bmG tyS_ok PySem.F.plainAttrs_str slot hty hr ho ha hbase hfew hline hs hplain) fun σ H Q h => ?_
  exact mth_out (fun m u y hv hk => recvS hmt hv hk) h
/-! ### an own len -/
theorem callSp_own {prog : Program} {w : World} {A : Around} {E : Value → Shared → Prop} {s : Shared} {K : PySem.W.Frag} {x Cl f : Addr} {ox : Obj} {od : Option Obj} {name : Str} {args : List Value} {Q : Option Value → Shared → Prop} (KI : K.In s.heap) (I : PySem.W.InstAt s.heap x ox Cl od) (hs : PySem.W.findIn K (.ref Cl) name = some (some (.ref f))) (hf : PySem.W.isFn K (.ref f) = true)
    (h : wpAny (model prog w) A (call (.ref f) (.ref x :: args)) (fun v => Q (some v)) E s) : wpAny (model prog w) A (callSpecial? (.ref x) name args) Q E s := by
  simp only [callSpecial?]
  refine wpAny_bind (PySem.W.Looks.here (PySem.W.Looks.andThen I.type (PySem.W.looks_findIn KI hs)) ?_)
  refine wpAny_holding (wpAny_bind ((PySem.W.bind_fn KI _ (beq_iff_eq.mp hf)).here ?_))
  exact wpAny_bind (wpAny_mono h (fun v s' h' => wpAny_pure h') fun _ _ h' => h')
theorem call_olen {CX : CXT} {k : Nat} {f Cl : Addr} {fd : FuncData} {ps : List Str} {sp : Sp} {E : XK} (F : FnOk X.prog X.w X.K X.mg X.base CX k f fd ps sp) (hr : Room (k + 1) X.A)
    (hs : PySem.W.findIn X.K (.ref Cl) "__len__" = some (some (.ref f))) (hf : PySem.W.isFn X.K (.ref f) = true) (hb : Binds X.K fd ps []) (hx : Passes CX X.nox E) :
    CallR X (.builtin "len") (fun xs H Q => ∃ a dx fs, xs = [.ref a] ∧ H a = some (.ins Cl dx fs) ∧ sp [.ref a] H (fun v H' => ∃ k : Int, v = .int k ∧ 0 ≤ k ∧ k < 2 ^ 63 ∧ Q (.int k) H') E) := by
  intro pins s σ H xs us Q I rxs d
  obtain ⟨a, dx, fs, rfl, ha, hsp⟩ := d
  obtain ⟨u, rfl, ru⟩ := Vals.one rxs
  cases ru
  obtain ⟨mA, J, _⟩ := ins_get I.hok ha
  obtain ⟨od, J, _⟩ := J.look
  refine Calls.call_function_entry kind_len plain_len entry_len (args_len1 _) ?_
  unfold Builtin.«len»
  refine wpAny_bind (m := oneArg "len" _) (wpAny_pure ?_)
  have hl := F.len _ _ _ _ hsp
  have r2 : Vals [V.ref a] [Value.ref a] := .cons rfl .nil
  refine wpAny_bind (m := callSpecial? (.ref a) (PySem.Str.ofString "__len__")) (callSp_own I.kIn J hs hf ?_)
  refine wpAny_call (codeAny_mono (F.run X.A.in1 X.stack s H ⟨[.ref a], []⟩ [.ref a] [.ref a] _ E hr.in1 I.env0.in1 (by
    have := hb s [.ref a] I.kIn (by simpa using hl)
    simpa using this) r2 hsp) fun r s' hq => ?_)
  cases r with
  | error e => exact False.elim (hx pins σ H s e s' (I.wish _) hq)
  | ok fl =>
    cases fl with
    | ret w =>
      obtain ⟨z, H', I', rz, kk, ez, k0, k1, q⟩ := I.after hq
      subst ez
      obtain ⟨t, rfl⟩ := rz
      refine wpAny_bind (wpAny_holding (wpAny_pure ?_))
      refine wpAny_bind (wpAny_letGo ?_)
      show wpAny _ _ (if kk < 0 then _ else _) _ _ _
      rw [if_neg (by omega)]
      show wpAny _ _ (if kk ≥ 2 ^ 63 then _ else _) _ _ _
      rw [if_neg (by omega)]
      exact wpAny_bind (wpAny_mkInt (wpAny_pure ⟨_, rfl, .int kk, H', I'.tok _, ⟨_, rfl⟩, q⟩))
    | next => exact False.elim hq
    | brk => exact False.elim hq
    | cont => exact False.elim hq
theorem s_olen {c k f : Nat} {ad : Addr} (F : FnE X.prog X.w X.K X.mg X.base T C k f ad) (hr : Room (k + 1) X.A) (hs : PySem.W.findIn X.K (.ref (T.ca c)) "__len__" = some (some (.ref ad))) (hf : PySem.W.isFn X.K (.ref ad) = true) (hg : Gl X "len") (hm : X.mg "len" = none) (ha : SE X T C W a ia)
    (he : starEach [a] X.env = (false, eval a X.env) :: starEach [] X.env := by rfl) : SE X T C W (.Call (.Name "len" p) [a] [] pos) (.olen c f ia) := by
  obtain ⟨fd, ps, ok, hbd⟩ := F.ok
  refine imE (pe_callB (call_olen ok hr hs hf hbd (pass_no X)) hg hm PySem.boot_len (s_acons ha s_anil he) (by decide) (by decide) he rfl) fun σ H Q h => ?_
  obtain ⟨env, m, rfl, er, oo⟩ := h
  replace oo : OutG (VR X.K) W σ m (((sem C ia).v env m.S).bind fun x S => if insOf S c x then lenEx (C f [x] S) else .er) Q := oo
  refine ⟨env, m, rfl, er, (bind1A (md := sem C ia) (f := fun x S => if insOf S c x then lenEx (C f [x] S) else .er) oo).imp ?_⟩
  rintro ys H1 ⟨y, u, m1, rfl, f1, rfl, hv, q⟩
  split at q
  · rename_i hi
    obtain ⟨a1, dx, gs, rfl, h1⟩ := insOf_inv hv hi
    refine ⟨a1, dx, gs, rfl, h1, m1, [u], rfl, .cons hv .nil, ?_⟩
    cases hc : C f [u] m1.S with
    | ok w S =>
      rw [hc] at q
      rintro w' m3 f3 e3 hw
      unfold lenEx at q
      split at q
      · rename_i b' S' heq
        split at q
        · rename_i hb
          rw [Bool.and_eq_true] at hb
          have h0 := of_decide_eq_true hb.1
          have h1 := Nat.ble_eq.mp hb.2
          cases heq
          cases Dr.int_inv hw
          exact ⟨b', rfl, h0, by omega, q _ m3 f3 e3 (.int b')⟩
        · exact q.elim
      · exact q.elim
    | ex c fs S => rw [hc] at q; exact q.elim
    | er => rw [hc] at q; exact q.elim
  · exact q.elim
end
end Itp
namespace Itp
open PySem L2
/-! ### what the head says of an own error with an own __init__ -/
def oexC0 (K : PySem.W.Frag) (Ca : Addr) : Bool := match K.lookup Ca with
  | some ⟨.type "type", _, .cls cd, sl⟩ => (match cd.mro, sl.toList with
    | .ref C' :: bm, [_, _, _, _, some (.builtin n), _] => C' == Ca && n == "ValueError.__new__" && !cd.hasDel && cd.hasDict && PySem.HandSPX.refsVE bm
    | _, _ => false)
  | _ => false
def oexB (K : PySem.W.Frag) (Ca : Addr) (f : Str) : Bool := oexC0 K Ca && (He.eqO (PySem.W.findIn K (.ref Ca) "__setattr__") (some (some (.builtin "object.__setattr__"))) && (decide (PySem.W.subIn K (.ref Ca) (.type "BaseException") = some true) && (decide (PySem.W.typeIn K (.ref Ca) = some (.type "type")) && (PySem.W.keepIn K (.ref Ca) &&
  (He.eqO (PySem.W.findIn K (.ref Ca) "__init__") (some (some (.ref (He.ma K Ca "__init__")))) && (decide (PySem.W.typeIn K (.ref (He.ma K Ca "__init__")) = some (.type "function")) && He.eqO (PySem.W.findIn K (.ref Ca) f) (some none)))))))
structure OexF (K : PySem.W.Frag) (Ca : Addr) (f : Str) : Prop where
  cls : OexC K Ca
  iC : PySem.W.findIn K (.ref Ca) "__init__" = some (some (.ref (He.ma K Ca "__init__")))
  tI : PySem.W.typeIn K (.ref (He.ma K Ca "__init__")) = some (.type "function")
  no : PySem.W.findIn K (.ref Ca) f = some none
theorem oex_ok {K : PySem.W.Frag} {Ca : Addr} {f : Str} (h : oexB K Ca f = true) : OexF K Ca f := by
  unfold oexB at h
  obtain ⟨h0, h⟩ := He.ba h
  obtain ⟨h1, h⟩ := He.ba h
  obtain ⟨h2, h⟩ := He.ba h
  obtain ⟨h3, h⟩ := He.ba h
  obtain ⟨h4, h⟩ := He.ba h
  obtain ⟨h5, h⟩ := He.ba h
  obtain ⟨h6, h7⟩ := He.ba h
  refine ⟨⟨?_, He.eqO_ok h1, of_decide_eq_true h2, of_decide_eq_true h3, h4⟩, He.eqO_ok h5, of_decide_eq_true h6, He.eqO_ok h7⟩
  unfold oexC0 at h0
  split at h0
  · rename_i dd cd sl ho
    split at h0
    · rename_i C' bm k0 k1 k2 k3 n k5 hm hs
      simp only [Bool.and_eq_true, beq_iff_eq, Bool.not_eq_true'] at h0
      obtain ⟨⟨⟨⟨rfl, rfl⟩, hdel⟩, hdic⟩, hv⟩ := h0
      obtain ⟨nm, bs, mro, ns, qn, hd, sn, sub, ab, col, del⟩ := cd
      dsimp only at hm hdel hdic
      subst hm hdel hdic
      have hsl : sl = #[k0, k1, k2, k3, some (.builtin "ValueError.__new__"), k5] := by
        obtain ⟨l⟩ := sl
        simp only at hs
        rw [hs]
      subst hsl
      exact ⟨nm, qn, ns, bs, bm, sn, sub, ab, col, dd, k0, k1, k2, k3, k5, ho, hv⟩
    · cases h0
  · cases h0
end Itp
namespace Itp
open PySem L2
def lenB (K : PySem.W.Frag) (C : Addr) : Bool := He.eqO (PySem.W.findIn K (.ref C) "__len__") (some (some (.ref (He.ma K C "__len__")))) && PySem.W.isFn K (.ref (He.ma K C "__len__"))
theorem lenE_ok {K : PySem.W.Frag} {C : Addr} (h : lenB K C = true) : PySem.W.findIn K (.ref C) "__len__" = some (some (.ref (He.ma K C "__len__"))) ∧ PySem.W.isFn K (.ref (He.ma K C "__len__")) = true := ⟨He.eqO_ok (He.ba h).1, (He.ba h).2⟩
end Itp
namespace Itp
open PySem L2
section
variable {X : Cx} {T : Ct} {C : CallF} {W : WX} {a : Expr} {ia : E} {pos : Pos}
theorem s_slcN {lo hi : Option Expr} {il ih : Option E} {p2 : Pos} (ha : SE X T C W a ia) (hl : SO X T C W lo il) (hh : SO X T C W hi ih) : SE X T C W (.Subscript a (.Slice lo hi none p2) pos) (.slcN ia il ih) := by
  refine imE (pe_slice (sl_list (X := X)) ha hl hh) fun σ H Q hh => ?_
  obtain ⟨env, m, rfl, er, o⟩ := hh
  refine ⟨env, m, rfl, er, (OutG.bind (R := VR X.K) (R' := VR X.K) (r := (sem C ia).v env m.S) o).imp ?_⟩
  rintro y H1 ⟨u, m1, f1, rfl, hv, q1⟩
  refine ⟨env, m1, rfl, er.mono f1, (OutG.bind (R := OiR) (R' := VR X.K) (r := part (semO C il) env m1.S) q1).imp ?_⟩
  rintro l H2 ⟨l', m2, f2, rfl, rfl, q2⟩
  refine ⟨env, m2, rfl, (er.mono f1).mono f2, (OutG.bind (R := OiR) (R' := VR X.K) (r := part (semO C ih) env m2.S) q2).imp ?_⟩
  rintro h H3 ⟨h', m3, f3, rfl, rfl, q3⟩
  have hv := hv.mono (f2.trans f3)
  replace q3 : OutG (VR X.K) W σ m3 (slcV l' h' u m3.S) Q := q3
  unfold slcV at q3
  cases e : asLst m3.S u with
  | none => rw [e] at q3; exact q3.elim
  | some ds =>
    rw [e] at q3
    obtain ⟨p1, vs, rfl, h1, r1⟩ := lst_of hv e
    refine ⟨p1, vs, rfl, SqL.of h1, fun q hq => ?_⟩
    have k := upd_keep (o := .lst (cutV vs l' h')) hq
    have ob : ∀ M : Addr → Prop, (∀ x u, m3.H x = some u → ¬ m3.M x → ¬ M x) → ObR X.prog X.w T M (upd m3.H q (.lst (cutV vs l' h'))) q q (.lst (cutL ds l' h')) := fun M hM =>
      ⟨cutV vs l' h', upd_same, DrAll.mono (fun x u e n => ⟨k x u e, hM x u e n⟩) _ _ (cut_dr r1 l' h')⟩
    have t : (upd m3.H q (.lst (cutV vs l' h')) q).isSome = true := by rw [upd_same]; rfl
    refine q3 (.ref q) (m3.push (.lst (cutL ds l' h')) q q _ hq hq k t t rfl ob) (m3.push_fut hq hq k t t rfl ob) rfl ⟨(q, q), ?_, rfl⟩
    show (m3.φ ++ [(q, q)])[m3.S.length]? = some (q, q)
    rw [← m3.len, List.getElem?_append_right (Nat.le_refl _)]
    simp
end
end Itp

set_option Elab.async false
set_option linter.all false
set_option autoImplicit false
set_option maxRecDepth 100000
set_option maxHeartbeats 4000000
/-! A property read in an except suite. -/
namespace Itp
open PySem L2
open PyProof.Rows (envOfC)
/-- the same place, no exception handled -/
def calmA (A : Around) : Around := { A with handled := none }
/-- a def that is called while an exception is handled, and lets none out -/
structure FnS (P : Program) (w : World) (K : PySem.W.Frag) (mg : Str → Option Value) (base : Heap) (k : Nat) (f : Addr) (fd : FuncData) (ps : List Str) (sp : Sp) : Prop where
  len : ∀ vs H Q E, sp vs H Q E → vs.length = ps.length
  run : ∀ (A : Around) (a : Addr) (outer : List Env) (s : Shared) (H : Hp) (args : Args) (us : List Value) (vs : List V) (Q : VK), A.handled = some (.ref a) → Room k (calmA A) → Env0 P w K mg base A outer s H → BindsTo s fd args (ps.zip us) → Vals vs us → sp vs H Q (fun _ _ _ => False) →
    codeAny (model P w) A (.call (.ref f) args) (CR (L2.CX P w) outer P w H s Q (fun _ _ _ => False)) s
theorem mark_back {A : Around} {v : Value} (h : A.handled = some v) (env : Env) : ((calmA A).deeper env).mark (some v) = A.deeper env := by
  obtain ⟨hd, dp, fr, gs, un⟩ := A
  have h : hd = some v := h
  subst h
  rfl
section
variable {P : Program} {w : World} {K : PySem.W.Frag} {mg : Str → Option Value} {base : Heap} {x qual : Str} {params : Arguments} {body : List Stmt} {scope : Scope} {kws : List (Str × V)} {f : Addr} {fd : FuncData} {N ps : List Str} {k : Nat} {sp : Sp}
theorem fnS_of (F : FunD K x qual params body scope [] kws f fd) (S : FnScope N ps scope) (len : ∀ vs H Q E, sp vs H Q E → vs.length = ps.length)
    (hB : ∀ (cdv : Value) (A : Around) (outer : List Env) (s : Shared) (H : Hp) (vs : List V) (Q : VK), Room k (A.deeper (envOfC qual scope s.heap.objs.size f cdv)) → sp vs H Q (fun _ _ _ => False) →
      ∃ t, (∀ a pn, PSs ((cxOf (L2.CX P w) P w K mg base N qual scope f cdv A outer s H (fun _ _ _ => False)).suite a pn) body t) ∧ t { nx := fun _ H' => Q .non H', rt := Q } (start N vs) H) : FnS P w K mg base (k + 1) f fd ps sp := by
  refine ⟨len, ?_⟩
  intro A a outer s H args us vs Q hh hr e0 hb r h
  obtain ⟨oc, od, dV, kV, doc, pm, an, cdv, ct, osl, rfl, lk, hcd, _, _⟩ := F.ex
  have hl := len _ _ _ _ h
  have keep0 : ∀ b o, base.get? b = some o → s.heap.get? b = some o := fun b o q => (e0.bs b o q).1
  have KI : K.In s.heap := e0.mod.kin.keeps keep0
  have e1 : Env0 P w K mg base (calmA A) outer s H := ⟨e0.frames, e0.mod, e0.bs, e0.bsz, e0.funs, e0.frf, e0.hok, e0.bare⟩
  have dep : A.depth < recursionLimit := by
    have := hr.dp
    have e : (calmA A).depth = A.depth := rfl
    omega
  refine codeAny_call_function dep (KI _ _ lk) rfl S.co S.gen rfl (PySem.W.codeRec_of KI hcd) (hb _ _ _ _ (wpAny_newFunctionEnv_cells S.kind ?_ ?_))
  · rintro ⟨y, v⟩ hy
    have hm := (List.of_mem_zip hy).1
    cases S.par y hm with
    | inl q => exact Or.inl q
    | inr q => exact Or.inr ⟨q, PySem.W.cellsFrom_some _ _ _ (Or.inl q)⟩
  · intro env he s1 z
    subst he
    refine ⟨(e0.mod.nolimit.keeps keep0).keeps z.toInCall.keep, codeAny_func ?_⟩
    obtain ⟨t, ht, hq⟩ := hB cdv (calmA A) outer s H vs Q (hr.deeper _) h
    have I0 := inv_start (CX := L2.CX P w) (E := fun _ _ _ => False) (cd := cdv) S (show (calmA A).handled = none from rfl) e1 hl r z
    have I1 := in_suite I0 a
    have go := (ht a _).run [] s1 (start N vs) H _ I1 hq
    have ea := mark_back hh (envOfC qual scope s.heap.objs.size f cdv)
    show wpAny (model P w) (A.deeper (envOfC qual scope s.heap.objs.size f cdv)) _ _ _ _
    rw [← ea]
    refine wpAny_mono go ?_ fun _ _ z => z.elim
    intro fl s' hs
    cases fl with
    | ret u =>
      obtain ⟨v, σ', H', J, rv, q⟩ := hs
      exact ⟨v, H', J.os, J.bare, J.base, J.hok, rv, q⟩
    | next =>
      obtain ⟨σ', H', J, q⟩ := hs
      exact ⟨.non, H', J.os, J.bare, J.base, J.hok, rfl, q⟩
    | brk => obtain ⟨_, _, _, q⟩ := hs; exact q.elim
    | cont => obtain ⟨_, _, _, q⟩ := hs; exact q.elim
theorem FnS.ret (F : FnS P w K mg base k f fd ps sp) : True := trivial
end
/-! ### by the interpreter -/
section
variable {P : Program} {w : World} {K : PySem.W.Frag} {mg : Str → Option Value} {base : Heap} {T : Ct}
structure FnT (P : Program) (w : World) (K : PySem.W.Frag) (mg : Str → Option Value) (base : Heap) (T : Ct) (C : CallF) (k f : Nat) (ad : Addr) : Prop where
  ok : ∃ (fd : FuncData) (ps : List Str), FnS P w K mg base k ad fd ps (spI P w K T C f) ∧ Binds K fd ps []
theorem fnT_zero {G : List Fn} {fu f : Nat} {x qual : Str} {params : Arguments} {body : List Stmt} {scope : Scope} {kws : List (Str × V)} {ad : Addr} {fd : FuncData} {ps : List Str} {k : Nat}
    (F : FunD K x qual params body scope [] kws ad fd) (bn : Binds K fd ps []) : FnT P w K mg base T (runFn G fu 0) k f ad :=
  ⟨fd, ps, ⟨fun _ _ _ _ ⟨_, _, _, _, o⟩ => o.elim, fun _ _ _ _ _ _ _ _ _ _ _ _ _ _ ⟨_, _, _, _, o⟩ => o.elim⟩, bn⟩
theorem fnT_code {G : List Fn} {fu n f np ns : Nat} {ss : List Sm} {x qual : Str} {params : Arguments} {body : List Stmt} {scope : Scope} {kws : List (Str × V)} {ad : Addr} {fd : FuncData} {N ps : List Str}
    (hG : G[f]? = some ⟨np, ns, .code ss, false⟩) (F : FunD K x qual params body scope [] kws ad fd) (sc : FnScope N ps scope) (hps : ps.length = np) (hN : N.length = ns) (bn : Binds K fd ps [])
    (hB : ∀ (cdv : Value) (A : Around) (outer : List Env) (s : Shared) (H : Hp), Room (2 * n + 3) (A.deeper (envOfC qual scope s.heap.objs.size ad cdv)) → ∀ a pn,
      SSs ((cxOf (L2.CX P w) P w K mg base N qual scope ad cdv A outer s H (fun _ _ _ => False)).suite a pn) T (runFn G fu n) WF fu body ss) :
    FnT P w K mg base T (runFn G fu (n + 1)) (2 * (n + 1) + 2) f ad := by
  refine ⟨fd, ps, fnS_of (k := 2 * n + 3) F sc (fnE_len hG hps) fun cdv A outer s H vs Q hr h => ⟨tS P w T K (execSs (runFn G fu n) fu ss) WF, fun a pn => hB cdv A outer s H hr a pn, ?_⟩, bn⟩
  obtain ⟨m, as, rfl, hv, o⟩ := h
  have hl : as.length = np := run_len hG o.ne
  have e1 : runFn G fu (n + 1) f as m.S = endFn false m.S.length (execSs (runFn G fu n) fu ss (as.map some ++ List.replicate (ns - np) none) m.S) := runFn_eq hG hl
  rw [e1] at o
  refine ⟨as.map some ++ List.replicate (ns - np) none, m, rfl, ?_, ?_⟩
  · have : L2.start N vs = vs.map some ++ List.replicate (ns - np) none := by
      unfold L2.start
      rw [← hv.length, hl, hN]
    rw [this]
    exact envR_start hv _
  · cases hr : execSs (runFn G fu n) fu ss (as.map some ++ List.replicate (ns - np) none) m.S with
    | nx env S =>
      rw [hr] at o
      exact fun σ m' f' e' er => o .non (m'.cut m.S.length) (Mem.cut_fut f' (Nat.le_refl _)) (by show m'.S.take _ = _; rw [e']; rfl) .non
    | bk env S => rw [hr] at o; exact o.elim
    | ct env S => rw [hr] at o; exact o.elim
    | rt v S =>
      rw [hr] at o
      intro y m' f' e' hy
      cases v with
      | d z => exact o y (m'.cut m.S.length) (Mem.cut_fut f' (Nat.le_refl _)) (by show m'.S.take _ = _; rw [e']) (Dr.mono (m'.cut_keep _) _ _ hy)
      | r k => exact o.elim
      | s k => exact o.elim
      | x k j => exact o.elim
    | ex c fs env S =>
      rw [hr] at o
      intro d σ m' f' e' er x3
      refine o d (m'.cut m.S.length) (Mem.cut_fut f' (Nat.le_refl _)) (by show m'.S.take _ = _; rw [e']) ?_
      rcases x3 with ⟨a1, a2⟩ | ⟨a', gs, a1, a2, a3, a4, a5⟩
      · exact .inl ⟨a1, a2⟩
      · exact .inr ⟨a', gs, a1, a2, (m'.cut_keep _ a' _ a2 a3).2, a4, DrAll.mono (m'.cut_keep _) _ _ a5⟩
    | er => rw [hr] at o; exact o.elim
end
section
variable {X : Cx} {T : Ct} {C : CallF} {W : WX} {o : Expr} {io : E} {pos : Pos} {k f : Nat} {ad : Addr}
/-- e.f, a property, in a suite: the getter's promise -/
theorem pe_propS {Ca pa a0 : Addr} {fl : Str} {fd : FuncData} {ps : List Str} {sp : Sp} {ta : TE} (he : PE X o ta) (c : Cls X.K Ca) (hp : PropOf X.K Ca fl pa ad) (F : FnS X.prog X.w X.K X.mg X.base k ad fd ps sp) (hh : X.A.handled = some (.ref a0)) (hr : Room (k + 1) (calmA X.A)) (hb : Binds X.K fd ps [])
    (hab : attributeBase o fl X.env (eval o X.env) = eval o X.env) : PE X (.Attribute o fl pos) (tProp Ca sp [] (fun _ _ _ => False) ta) := by
  refine ⟨fun pins s σ H Q I h => ?_⟩
  refine attr_of hab (thn (he.run pins s σ H _ I h) fun u s1 ⟨x, H1, I1, rx, a, dx, fs, ex, ea, q⟩ => ?_)
  subst ex
  obtain rfl : u = Value.ref a := rx
  obtain ⟨mA, O, _⟩ := ins_get I1.hok ea
  obtain ⟨od, J, _⟩ := O.look
  obtain ⟨rest, hrec⟩ := hp.rec_
  have I2 := I1.tok (s1.toks + 1)
  have hcs : (PySem.W.clsIn X.K Ca).isSome = true := by
    obtain ⟨cd, hc, _⟩ := PySem.W.any_some c.hd
    rw [hc]; rfl
  have pl := PySem.W.plainGet_of (c.get fl)
  have hl := F.len _ _ _ _ q
  refine PySem.W.get_bind I1.kIn J pl.1 (PySem.W.findObj_data hcs hp.at_ hp.get hp.tak) pl.2 (wpAny_call (PySem.W.prop_get (s := { s1 with toks := s1.toks + 1 }) I1.kIn hrec ?_))
  have rr : Room k (calmA X.A.in1) := hr.in1
  have bd := hb { s1 with toks := s1.toks + 1 } [.ref a] I2.kIn (by simpa using hl)
  refine codeAny_mono (F.run X.A.in1 a0 X.stack { s1 with toks := s1.toks + 1 } H1 ⟨[.ref a], []⟩ [.ref a] [.ref a] Q hh rr I2.env0.in1 (by simpa using bd) (.cons rfl .nil) q) fun r s' hq => ?_
  cases r with
  | error er =>
    obtain ⟨_, _, _, _, _, _, _, _, _, _, _, _, z⟩ := hq
    exact z.elim
  | ok fl =>
    cases fl with
    | ret u =>
      obtain ⟨v, H', I3, rv, q3⟩ := I2.after hq
      show wpAny _ _ (handedOut u) _ _ _
      rw [PySem.W.handedOut_of (handed_of rv)]
      exact wpAny_pure ⟨v, H', I3, rv, q3⟩
    | next => exact False.elim hq
    | brk => exact False.elim hq
    | cont => exact False.elim hq
theorem s_propS {c : Nat} {fl : Str} {pa a0 : Addr} (cl : Cls X.K (T.ca c)) (hp : PropOf X.K (T.ca c) fl pa ad) (F : FnT X.prog X.w X.K X.mg X.base T C k f ad) (hh : X.A.handled = some (.ref a0)) (hr : Room (k + 1) (calmA X.A)) (ho : SE X T C W o io) (hb : attributeBase o fl X.env (eval o X.env) = eval o X.env := by rfl) :
    SE X T C W (.Attribute o fl pos) (.prop c f fl io) := by
  obtain ⟨fd, ps, ok, hbd⟩ := F.ok
  refine imE (pe_propS ho cl hp ok hh hr hbd hb) fun σ H Q h => ?_
  obtain ⟨env, m, rfl, er, oo⟩ := h
  refine ⟨env, m, rfl, er, (OutG.bind (R := VR X.K) (R' := VR X.K) (r := (sem C io).v env m.S) oo).imp ?_⟩
  rintro y H1 ⟨u, m1, f1, rfl, hv, q1⟩
  split at q1
  · rename_i hi
    obtain ⟨a, dx, gs, rfl, h1⟩ := insOf_inv hv hi
    refine ⟨a, dx, gs, rfl, h1, m1, [u], rfl, .cons hv .nil, ?_⟩
    cases hc : C f [u] m1.S with
    | ok v S => rw [hc] at q1; exact q1
    | ex c fs S => rw [hc] at q1; exact q1.elim
    | er => rw [hc] at q1; exact q1.elim
  · exact q1.elim
end
end Itp
namespace Itp
open PySem L2
theorem calm_room {k : Nat} {A : Around} {v : Option Value} (r : Room k A) : Room k (calmA (A.mark v)) := ⟨rfl, r.dp, r.un⟩
end Itp

set_option Elab.async false
set_option linter.all false
set_option autoImplicit false
set_option maxRecDepth 100000
set_option maxHeartbeats 4000000
/-! The head's facts, asked part by part. -/
namespace Itp
open PySem L2
section
variable {S γ : Type} {X : Option S} {F : S → γ} {good : γ} {Kf : S → PySem.W.Frag}
theorem obs_app {K : PySem.W.Frag} {e1 e2 : PySem.W.Frag → Bool} {a1 a2 : List He.Fa} {f1 f2 : List FnA} (h1 : obsK a1 f1 e1 K = valE f1) (h2 : obsK a2 f2 e2 K = valE f2) : obsK (a1 ++ a2) (f1 ++ f2) (fun K => e1 K && e2 K) K = valE (f1 ++ f2) := by
  have p1 : (e1 K && ((a1.all fun f => f.ok K) && f1.all fun d => okAt K (d.ad K) d.qual)) = true := congrArg Prod.fst h1
  have p2 : (e2 K && ((a2.all fun f => f.ok K) && f2.all fun d => okAt K (d.ad K) d.qual)) = true := congrArg Prod.fst h2
  have q1 : (f1.map fun d => fnAt K (d.ad K)) = f1.map FnA.val := congrArg Prod.snd h1
  have q2 : (f2.map fun d => fnAt K (d.ad K)) = f2.map FnA.val := congrArg Prod.snd h2
  obtain ⟨x1, y1⟩ := He.ba p1
  obtain ⟨y1, z1⟩ := He.ba y1
  obtain ⟨x2, y2⟩ := He.ba p2
  obtain ⟨y2, z2⟩ := He.ba y2
  show ((e1 K && e2 K) && (((a1 ++ a2).all fun f => f.ok K) && (f1 ++ f2).all fun d => okAt K (d.ad K) d.qual), ((f1 ++ f2).map fun d => fnAt K (d.ad K))) = (true, (f1 ++ f2).map FnA.val)
  rw [List.all_append, List.all_append, x1, x2, y1, y2, z1, z2, List.map_append, List.map_append, q1, q2]
  rfl
theorem run_app {F1 : S → Bool} {F2 : S → γ} {g : S → Addr → Option Obj} {n : Nat} {e1 e2 : PySem.W.Frag → Bool} {a1 a2 : List He.Fa} {f1 f2 : List FnA} (h1 : X.map (fun s => (F1 s, F2 s, obsE n a1 f1 e1 (g s))) = some (true, good, valE f1)) (h2 : X.map (fun s => (F1 s, F2 s, obsE n a2 f2 e2 (g s))) = some (true, good, valE f2)) :
    X.map (fun s => (F1 s, F2 s, obsE n (a1 ++ a2) (f1 ++ f2) (fun K => e1 K && e2 K) (g s))) = some (true, good, valE (f1 ++ f2)) := by
  cases X with
  | none => cases h2
  | some s =>
    have e0 := Option.some.inj h1
    have e2 := Option.some.inj h2
    have g1 : F1 s = true := congrArg Prod.fst e0
    have g2 : F2 s = good := congrArg (fun z => z.2.1) e0
    have g3 : obsE n a1 f1 e1 (g s) = valE f1 := congrArg (fun z => z.2.2) e0
    have g4 : obsE n a2 f2 _ (g s) = valE f2 := congrArg (fun z => z.2.2) e2
    show some (F1 s, F2 s, obsE n (a1 ++ a2) (f1 ++ f2) _ (g s)) = _
    unfold obsE at g3 g4 ⊢
    rw [g1, g2, obs_app g3 g4]
end
end Itp

set_option Elab.async false
set_option linter.all false
set_option autoImplicit false
set_option maxRecDepth 100000
set_option maxHeartbeats 4000000
/-! isinstance of a caught exception with a built-in class. -/
namespace Itp
open PySem L2
def kitTB (K : PySem.W.Frag) (D : Addr) (N : String) (b : Bool) : Bool := decide (PySem.W.kitOne K (.ref D) (.type N) = some b)
theorem kitT_ok {K : PySem.W.Frag} {D : Addr} {N : String} {b : Bool} (h : kitTB K D N b = true) : PySem.W.kitOne K (.ref D) (.type N) = some b := of_decide_eq_true h
section
variable {X : Cx} {T : Ct} {C : CallF} {W : WX} {fu : Nat} {a : Expr} {ia : E} {x : Str} {p pos : Pos}
theorem s_xisiT {N : String} {tbl : List (Nat × Bool)} {q : Pos} (hg : Gl X "isinstance") (hm : X.mg "isinstance" = none) (hg2 : Gl X x) (hm2 : X.mg x = none) (hv : bootBuiltins x = some (.type N)) (hx : ∀ q ∈ tbl, XisC X.K (T.ca q.1) ∧ PySem.W.kitOne X.K (.ref (T.ca q.1)) (.type N) = some q.2) (ha : SE X T C W a ia)
    (hn : x ≠ "__name__" := by decide) (hd : (x == ("__debug__" : Str)) = false := by decide) (he : starEach [a, .Name x q] X.env = (false, eval a X.env) :: starEach [.Name x q] X.env := by rfl) (he2 : starEach [.Name x q] X.env = (false, eval (.Name x q) X.env) :: starEach [] X.env := by rfl) (hpl : (backTo pos (starEach [.Name x q] X.env)).any (·.1) = false := by rfl) :
    SE X T C W (.Call (.Name "isinstance" p) [a, .Name x q] [] pos) (.xisi tbl ia) := by
  refine imE (pe_callB (k_xis (T := T) (cv := .ty N) (cu := .type N) (fun u h => h) hx) hg hm PyProof.Rows.boot_isinstance (pa_cons ha (pa_cons (s_tyB hg2 hm2 hv hn hd) pa_nil he2) he) (by decide) (by decide) he hpl) fun σ H Q h => ?_
  obtain ⟨env, m, eH, er, o⟩ := h
  refine ⟨env, m, eH, er, (OutG.bind (R := VR X.K) (R' := VR X.K) (r := (sem C ia).v env m.S) o).imp ?_⟩
  rintro y H1 ⟨u', m1, f1, rfl, hv, q1⟩
  exact ⟨y, m1, u', rfl, rfl, hv, OutD.ofB q1⟩
end
end Itp

set_option Elab.async false
set_option linter.all false
set_option autoImplicit false
set_option maxRecDepth 100000
set_option maxHeartbeats 4000000
/-! list.index of plain data. -/
namespace Itp
open PySem L2
section
variable {X : Cx} {T : Ct} {C : CallF} {W : WX} {a b e o : Expr} {es : List Expr} {ia ib io : E} {is : List E} {id : String} {name : Str} {apos cpos : Pos}
theorem m_index (hu : X.A.units + 65 < cLine) : MtR X "list.index" (rM X T .index) := by
  intro pins s σ H x xs v us Q I rx rxs h
  obtain ⟨m, a, as, W, σ', rfl, va, vs, o⟩ := h
  replace o : OutD m (idxD m.S a as) Q := ask_out rfl o
  unfold idxD at o
  split at o
  · rename_i d
    split at o
    · rename_i ds e
      split at o
      · rename_i hs
        rw [Bool.and_eq_true] at hs
        split at o
        · rename_i j hj
          cases vs with
          | cons hv r =>
            cases r
            obtain ⟨b', ys, rfl, h1, h2⟩ := lst_of va e
            obtain ⟨hjl, hjk, hjn⟩ := List.findIdx?_eq_some_iff_getElem.mp hj
            refine mt_indexD hu pins s σ m.H _ _ v us Q I rx rxs ⟨b', _, d, ds, j, ds[j], rfl, rfl, .lst (SqL.of h1) (DrAll.dp _ _ h2 (lay_list hs.2)), Dr.dp _ _ hv (SeqAt.canLay_of_shaped hs.1), hs.2, hs.1, List.getElem?_eq_getElem hjl, hjk, fun i z hi hz => ?_, OutD.get o (.int _)⟩
            obtain ⟨hil, ez⟩ := List.getElem?_eq_some_iff.mp hz
            rw [← ez]
            have := hjn i hi
            exact Bool.eq_false_iff.mpr this
        · exact o.elim
      · exact o.elim
    · exact o.elim
  · exact o.elim
end
end Itp

set_option Elab.async false
set_option linter.all false
set_option autoImplicit false
set_option maxRecDepth 100000
set_option maxHeartbeats 4000000
/-! range that goes down. -/
namespace Itp
open PySem L2
section
variable {P : Program} {w : World} {T : Ct} {K : PySem.W.Frag}
theorem it_down {m : Mem P w T} {i j : Int} : ItR P w T (VR K) m (rangeD (j + 1) (i + 1)).reverse (Itc i (-1) (i - j).toNat) := by
  intro m' f k
  have hlen : (rangeD (j + 1) (i + 1)).reverse.length = (i - j).toNat := by simp [rangeD]; omega
  refine ⟨fun x hx => ?_, fun h => by rw [hlen] at h; exact h⟩
  have hk : k < (i - j).toNat := by rw [← hlen]; exact (List.getElem?_eq_some_iff.mp hx).1
  refine ⟨hk, ?_⟩
  rintro y H' ⟨rfl, rfl⟩
  refine ⟨m', rfl, Fut.refl m', rfl, ?_⟩
  rw [List.getElem?_reverse (by simp [rangeD]; omega)] at hx
  unfold rangeD at hx
  rw [List.getElem?_map] at hx
  obtain ⟨n, hn, rfl⟩ := Option.map_eq_some_iff.mp hx
  obtain ⟨hn1, hn2⟩ := List.getElem?_eq_some_iff.mp hn
  rw [List.getElem_range] at hn2
  simp at hn2
  have e : j + 1 + (n : Int) = i + (k : Nat) * (-1) := by omega
  rw [e]
  exact .int _
end
section
variable {X : Cx} {T : Ct} {C : CallF} {W : WX} {a b c : Expr} {ia ib : E} {p pos : Pos}
theorem bind3C {α β : Type} {R' : Mem X.prog X.w T → α → β → Prop} {σ : St} {m : Mem X.prog X.w T} {md nd : Md} {d : D} {env : Ev} {f : Vl → Vl → Sto → Re α} {Q : β → Hp → Prop} (o : OutG R' W σ m ((md.v env m.S).bind fun x S => (nd.v env S).bind fun y S => f x y S) Q) :
    OutG (VRs X.K) W σ m (vals [md, nd, sem C (.con d)] env m.S) (fun ys H1 => ∃ y z v' u v m1, ys = [y, z, v'] ∧ Fut m m1 ∧ m1.H = H1 ∧ VR X.K m1 u y ∧ VR X.K m1 v z ∧ VR X.K m1 (.d d) v' ∧ OutG R' W σ m1 (f u v m1.S) Q) := by
  show OutG (VRs X.K) W σ m ((md.v env m.S).bind fun x S => ((nd.v env S).bind fun y S => .ok [y, .d d] S).bind fun xs S => .ok (x :: xs) S) _
  cases hr : md.v env m.S with
  | ok a S =>
    rw [hr] at o
    show OutG (VRs X.K) W σ m (((nd.v env S).bind fun y S => .ok [y, .d d] S).bind fun xs S => .ok (a :: xs) S) _
    replace o : OutG R' W σ m ((nd.v env S).bind fun y S => f a y S) Q := o
    cases hq : nd.v env S with
    | ok b S' =>
      rw [hq] at o
      rintro bs m1 g1 rfl vb
      cases vb with
      | cons p q => cases q with
        | cons p' q' => cases q' with
          | cons p2 q2 =>
            cases q2
            exact ⟨_, _, _, a, b, m1, rfl, g1, rfl, p, p', p2, OutG.fut g1 o⟩
    | ex c fs S => rw [hq] at o; exact o
    | er => rw [hq] at o; exact o
  | ex c fs S => rw [hr] at o; exact o
  | er => rw [hr] at o; exact o
theorem i_rngD {tg : Expr} (hg : Gl X "range") (hm : X.mg "range" = none) (ha : SE X T C W a ia) (hb : SE X T C W b ib) (hc : SE X T C W c (.con (.int (-1))))
    (hs : starEach [a, b, c] X.env = (false, eval a X.env) :: starEach [b, c] X.env := by rfl) (hs2 : starEach [b, c] X.env = (false, eval b X.env) :: starEach [c] X.env := by rfl) (hs3 : starEach [c] X.env = (false, eval c X.env) :: starEach [] X.env := by rfl) (hpl : (backTo pos (starEach [b, c] X.env)).any (·.1) = false := by rfl) :
    SI X T C W tg (.Call (.Name "range" p) [a, b, c] [] pos) (.rngD ia ib) := by
  refine imI (pi_range3 (tg := tg) hg hm (s_acons ha (s_acons hb (s_acons hc s_anil hs3) hs2) hs) hs hpl) fun σ H R h => ?_
  obtain ⟨env, m, rfl, er, o⟩ := h
  refine ⟨env, m, rfl, er, (bind3C (C := C) (md := sem C ia) (nd := sem C ib) (d := .int (-1)) (f := rngDn) o).imp ?_⟩
  rintro ys H1 ⟨y, z, v', u, v, m1, rfl, f1, rfl, hv, hw, h1, q1⟩
  unfold rngDn at q1
  split at q1
  · cases Dr.int_inv hv
    cases Dr.int_inv hw
    cases Dr.int_inv h1
    split at q1
    · rename_i hj
      have hj := rngOk_iff.mp hj
      exact ⟨_, _, _, _, rfl, RgC.neg (by omega) (by omega) (by omega) (by omega), q1.get it_down⟩
    · exact q1.elim
  · exact q1.elim
theorem s_m1 {j : Nat} {q q2 : Pos} : SE X T C W (.UnaryOp .USub (.Constant (.int 1) j q) q2) (.con (.int (-1))) := s_neg (C := C) (s_int (C := C) (i := 1))
end
end Itp

set_option Elab.async false
set_option linter.all false
set_option autoImplicit false
set_option maxRecDepth 100000
set_option maxHeartbeats 4000000
/-! The interpreter, step by step, for plain reasoning. -/
namespace Itp
open PySem L2
section
variable {C : CallF} {fu : Nat} {env : Ev} {S : Sto} {a b c i o e t it tg : E} {es cs : List E} {α β : Type}
@[simp] theorem bind_ok (x : α) (f : α → Sto → Re β) : (Re.ok x S).bind f = f x S := rfl
@[simp] theorem bind_er (f : α → Sto → Re β) : (Re.er : Re α).bind f = .er := rfl
@[simp] theorem bindS_ok (x : α) (f : α → Sto → RS) : (Re.ok x S).bindS env f = f x S := rfl
@[simp] theorem okS_ok (x : α) (f : α → Sto → RS) : (Re.ok x S).okS f = f x S := rfl
@[simp] theorem rbind_nx (f : Ev → Sto → RS) : (RS.nx env S).bind f = f env S := rfl
@[simp] theorem rbind_rt (v : Vl) (f : Ev → Sto → RS) : (RS.rt v S).bind f = .rt v S := rfl
@[simp] theorem turn_nx (f : Ev → Sto → RS) : (RS.nx env S).turn f = f env S := rfl
@[simp] theorem turn_rt (v : Vl) (f : Ev → Sto → RS) : (RS.rt v S).turn f = .rt v S := rfl
@[simp] theorem turn_ct (f : Ev → Sto → RS) : (RS.ct env S).turn f = f env S := rfl
@[simp] theorem turn_bk (f : Ev → Sto → RS) : (RS.bk env S).turn f = .nx env S := rfl
@[simp] theorem execSs_nil : execSs C fu [] env S = .nx env S := rfl
@[simp] theorem execSs_cons (s : Sm) (r : List Sm) : execSs C fu (s :: r) env S = (execS C fu s env S).bind fun env S => execSs C fu r env S := rfl
@[simp] theorem x_asg : execS C fu (.asg t e) env S = (evalE C e env S).bindS env fun v S => (assignE C t v env S).okS fun env S => .nx env S := rfl
@[simp] theorem x_ret : execS C fu (.ret e) env S = (evalE C e env S).bindS env fun v S => .rt v S := rfl
@[simp] theorem x_exp : execS C fu (.exp e) env S = (evalE C e env S).bindS env fun _ S => .nx env S := rfl
@[simp] theorem x_ite (x y : List Sm) : execS C fu (.ite c x y) env S = (evalT C c env S).bindS env fun k S => if k then execSs C fu x env S else execSs C fu y env S := rfl
@[simp] theorem x_for (x : List Sm) : execS C fu (.for_ t it x) env S = (evalI C it env S).bindS env fun xs S => forLoop (fun x => assignE C t (.d x)) (execSs C fu x) xs env S := rfl
@[simp] theorem v_var (i : Nat) : evalE C (.var i) env S = (match env[i]? with | some (some v) => .ok v S | _ => .er) := rfl
@[simp] theorem a_var (i : Nat) (v : Vl) : assignE C (.var i) v env S = .ok (env.set i (some v)) S := rfl
@[simp] theorem v_con (d : D) : evalE C (.con d) env S = .ok (.d d) S := rfl
@[simp] theorem v_glb (x : Str) (d : D) : evalE C (.glb x d) env S = .ok (.d d) S := rfl
def andM (x : Vl) (f g : Re Vl) : Re Vl := match x with
  | .d (.bool true) => f
  | .d (.bool false) => g
  | _ => .er
def orM (x : Vl) (f g : Re Vl) : Re Vl := match x with
  | .d (.bool false) => f
  | .d (.bool true) => g
  | _ => .er
def chM (x : Option Bool) (f g : Re Vl) : Re Vl := match x with
  | some true => f
  | some false => g
  | none => .er
@[simp] theorem andM_b (k : Bool) (f g : Re Vl) : andM (.d (.bool k)) f g = if k then f else g := by cases k <;> rfl
@[simp] theorem orM_b (k : Bool) (f g : Re Vl) : orM (.d (.bool k)) f g = if k then g else f := by cases k <;> rfl
@[simp] theorem chM_b (k : Bool) (f g : Re Vl) : chM (some k) f g = if k then f else g := by cases k <;> rfl
@[simp] theorem bind_ite (k : Prop) [Decidable k] (x y : Re α) (f : α → Sto → Re β) : (if k then x else y).bind f = if k then x.bind f else y.bind f := by split <;> rfl
@[simp] theorem bindS_ite (k : Prop) [Decidable k] (x y : Re α) (f : α → Sto → RS) : (if k then x else y).bindS env f = if k then x.bindS env f else y.bindS env f := by split <;> rfl
@[simp] theorem okS_ite (k : Prop) [Decidable k] (x y : Re α) (f : α → Sto → RS) : (if k then x else y).okS f = if k then x.okS f else y.okS f := by split <;> rfl
@[simp] theorem rbind_ite (k : Prop) [Decidable k] (x y : RS) (f : Ev → Sto → RS) : (if k then x else y).bind f = if k then x.bind f else y.bind f := by split <;> rfl
@[simp] theorem turn_ite (k : Prop) [Decidable k] (x y : RS) (f : Ev → Sto → RS) : (if k then x else y).turn f = if k then x.turn f else y.turn f := by split <;> rfl
@[simp] theorem endFn_ite (b : Bool) (m : Nat) (k : Prop) [Decidable k] (x y : RS) : endFn b m (if k then x else y) = if k then endFn b m x else endFn b m y := by split <;> rfl
@[simp] theorem endFn_rt (m : Nat) (x : D) : endFn false m (.rt (.d x) S) = .ok (.d x) (S.take m) := rfl
@[simp] theorem endFn_nx (m : Nat) : endFn false m (.nx env S) = .ok (.d .none) (S.take m) := rfl
@[simp] theorem endFn_rtK (m : Nat) (v : Vl) : endFn true m (.rt v S) = .ok v S := rfl
@[simp] theorem endFn_nxK (m : Nat) : endFn true m (.nx env S) = .ok (.d .none) S := rfl
@[simp] theorem tests_nil : tests (sems C []) env S = .ok true S := rfl
@[simp] theorem tests_one : tests (sems C [c]) env S = evalT C c env S := rfl
@[simp] theorem v_and : evalE C (.and a b) env S = (evalE C a env S).bind fun x S => andM x (evalE C b env S) (.ok (.d (.bool false)) S) := rfl
@[simp] theorem v_not : evalE C (.not a) env S = (evalE C a env S).bind fun x S => (match x with | .d (.bool k) => .ok (.d (.bool (!k))) S | _ => .er) := rfl
@[simp] theorem v_isi (t : Ty) : evalE C (.isi a t) env S = (evalE C a env S).bind fun x S => ofB S (isiD t x) := rfl
@[simp] theorem v_call (f : Nat) : evalE C (.call f es) env S = (evalEs C es env S).bind fun vs S => C f vs S := rfl
@[simp] theorem v_chain (o1 o2 : COp) : evalE C (.chain o1 o2 a b c) env S = (evalE C a env S).bind fun x S => (evalE C b env S).bind fun y S => chM (cmpD S o1 x y) ((evalE C c env S).bind fun z S => ofB S (cmpD S o2 y z)) (.ok (.d (.bool false)) S) := rfl
@[simp] theorem vs_nil : evalEs C [] env S = .ok [] S := rfl
@[simp] theorem vs_cons : evalEs C (a :: es) env S = (evalE C a env S).bind fun x S => (evalEs C es env S).bind fun xs S => .ok (x :: xs) S := rfl
@[simp] theorem x_par (is : List Nat) : execS C fu (.par is es) env S = (evalEs C es env S).bindS env fun vs S => (match setAll is vs env with | some env => .nx env S | none => .er) := rfl
@[simp] theorem x_aug (i : Nat) (op : BOp) : execS C fu (.aug i op e) env S = (match env[i]? with | some (some x) => (evalE C e env S).bindS env fun y S => augOk S op x y fun z => .nx (env.set i (some (.d z))) S | _ => .er) := rfl
@[simp] theorem x_retN : execS C fu .retN env S = .rt (.d .none) S := rfl
@[simp] theorem x_whl (x : List Sm) : execS C fu (.whl c x) env S = whileLoop (evalT C c) (execSs C fu x) fu env S := rfl
@[simp] theorem x_brk : execS C fu .brk env S = .bk env S := rfl
@[simp] theorem x_cnt : execS C fu .cnt env S = .ct env S := rfl
@[simp] theorem x_pass : execS C fu .pass env S = .nx env S := rfl
@[simp] theorem x_nev : execS C fu .nev env S = .er := rfl
@[simp] theorem x_try (x y : List Sm) : execS C fu (.try_ x y) env S = tryEx (execSs C fu x env S) (hdSs C fu y) := rfl
@[simp] theorem tryEx_nx (f : Nat → List D → Ev → Sto → RS) : tryEx (.nx env S) f = .nx env S := rfl
@[simp] theorem tryEx_rt (v : Vl) (f : Nat → List D → Ev → Sto → RS) : tryEx (.rt v S) f = .rt v S := rfl
@[simp] theorem tryEx_ex (k : Nat) (ds : List D) (f : Nat → List D → Ev → Sto → RS) : tryEx (.ex k ds env S) f = f k ds env S := rfl
@[simp] theorem hdSs_nil (k : Nat) (ds : List D) : hdSs C fu [] k ds env S = .ex k ds env S := rfl
@[simp] theorem hdSs_cons (h : Sm) (r : List Sm) (k : Nat) (ds : List D) : hdSs C fu (h :: r) k ds env S = hdS C fu h k ds env S (hdSs C fu r k ds env S) := rfl
@[simp] theorem hdS_hd (tbl : List (Nat × Bool)) (i : Option Nat) (x : List Sm) (k : Nat) (ds : List D) (q : RS) : hdS C fu (.hd tbl i x) k ds env S q = (match tbl.lookup k with | some true => hdEnd i (execSs C fu x (hdIn i k ds env) S) | some false => q | none => .er) := rfl
@[simp] theorem bind_ex (k : Nat) (ds : List D) (f : α → Sto → Re β) : (Re.ex k ds S : Re α).bind f = .ex k ds S := rfl
@[simp] theorem bindS_ex (k : Nat) (ds : List D) (f : α → Sto → RS) : (Re.ex k ds S : Re α).bindS env f = .ex k ds env S := rfl
@[simp] theorem rbind_ex (k : Nat) (ds : List D) (f : Ev → Sto → RS) : (RS.ex k ds env S).bind f = .ex k ds env S := rfl
@[simp] theorem turn_ex (k : Nat) (ds : List D) (f : Ev → Sto → RS) : (RS.ex k ds env S).turn f = .ex k ds env S := rfl
@[simp] theorem endFn_ex (b : Bool) (m k : Nat) (ds : List D) : endFn b m (.ex k ds env S) = .ex k ds (S.take m) := rfl
@[simp] theorem x_rse (k : Nat) : execS C fu (.rse k es) env S = (evalEs C es env S).bindS env fun vs S => (match allDat vs with | some ds => if Nat.beq ds.length es.length then .ex k ds env S else .er | none => .er) := rfl
@[simp] theorem hdEnd_nx (i : Option Nat) : hdEnd i (.nx env S) = .nx (hdOut i env) S := rfl
@[simp] theorem hdEnd_rt (i : Option Nat) (v : Vl) : hdEnd i (.rt v S) = .rt v S := rfl
@[simp] theorem v_catN : evalE C (.catN a b) env S = (evalE C a env S).bind fun x S => (evalE C b env S).bind fun y S => catV x y S := rfl
@[simp] theorem v_lnew : evalE C (.lnew a) env S = (evalE C a env S).bind fun x S => lnewV x S := rfl
@[simp] theorem v_meth (k m : Nat) (nm : Str) : evalE C (.meth k m nm o es) env S = (evalE C o env S).bind fun x S => if methOk S k nm x then (evalEs C es env S).bind fun vs S => C m (x :: vs) S else .er := rfl
@[simp] theorem v_slcN (lo hi : Option E) : evalE C (.slcN a lo hi) env S = (evalE C a env S).bind fun x S => (part (semO C lo) env S).bind fun l S => (part (semO C hi) env S).bind fun h S => slcV l h x S := rfl
@[simp] theorem v_olen (k m : Nat) : evalE C (.olen k m o) env S = (evalE C o env S).bind fun x S => if insOf S k x then lenEx (C m [x] S) else .er := rfl
@[simp] theorem i_zip_ : evalI C (.zip a b) env S = (evalE C a env S).bind fun x S => (evalE C b env S).bind fun y S => zipI false x y S := rfl
@[simp] theorem i_zipR_ : evalI C (.zipR a b) env S = (evalE C a env S).bind fun x S => (evalE C b env S).bind fun y S => zipI true x y S := rfl
@[simp] theorem t_meth_ (k m : Nat) (nm : Str) : evalT C (.meth k m nm o es) env S = (evalE C (.meth k m nm o es) env S).bind fun x S => (match truthV S x with | some k => .ok k S | none => .er) := rfl
@[simp] theorem v_xfld (ks : List Nat) (ix : Nat) (f : Str) : evalE C (.xfld ks ix f o) env S = (evalE C o env S).bind fun x S => ofO S (xfldD ks ix x) := rfl
@[simp] theorem v_xisi (tbl : List (Nat × Bool)) : evalE C (.xisi tbl o) env S = (evalE C o env S).bind fun x S => ofB S (xisiD tbl x) := rfl
@[simp] theorem x_fz (i : Nat) (s : Sm) : execS C fu (.fz i s) env S = freeze i env S (execS C fu s) := rfl
@[simp] theorem rbind_bk (f : Ev → Sto → RS) : (RS.bk env S).bind f = .bk env S := rfl
@[simp] theorem rbind_ct (f : Ev → Sto → RS) : (RS.ct env S).bind f = .ct env S := rfl
@[simp] theorem rbind_er (f : Ev → Sto → RS) : RS.er.bind f = .er := rfl
@[simp] theorem v_tup : evalE C (.tup es) env S = (evalEs C es env S).bind fun vs S => (match allDat vs with | some ds => if inLine ds.length then .ok (.d (.tuple ds)) S else .er | none => .er) := rfl
@[simp] theorem a_tup (v : Vl) : assignE C (.tup es) v env S = tupT (sems C es) es.length v env S := rfl
@[simp] theorem v_lst : evalE C (.lst es) env S = (evalEs C es env S).bind fun vs S => (match allDat vs with | some ds => if inLine ds.length then .ok (.d (.list ds)) S else .er | none => .er) := rfl
@[simp] theorem v_new : evalE C (.new es) env S = (evalEs C es env S).bind fun vs S => (match allDat vs with | some ds => if inLine ds.length then .ok (.r S.length) (S ++ [.lst ds]) else .er | none => .er) := rfl
@[simp] theorem v_bin (op : BOp) : evalE C (.bin op a b) env S = (evalE C a env S).bind fun x S => (evalE C b env S).bind fun y S => ofO S (binD S op x y) := rfl
@[simp] theorem v_neg : evalE C (.neg a) env S = (evalE C a env S).bind fun x S => (match x with | .d (.int i) => .ok (.d (.int (-i))) S | _ => .er) := rfl
@[simp] theorem v_cmp (op : COp) : evalE C (.cmp op a b) env S = (evalE C a env S).bind fun x S => (evalE C b env S).bind fun y S => ofB S (cmpD S op x y) := rfl
@[simp] theorem v_or : evalE C (.or a b) env S = (evalE C a env S).bind fun x S => orM x (evalE C b env S) (.ok (.d (.bool true)) S) := rfl
@[simp] theorem v_ife : evalE C (.ife c a b) env S = (evalT C c env S).bind fun k S => if k then evalE C a env S else evalE C b env S := rfl
@[simp] theorem v_sub : evalE C (.sub a i) env S = (evalE C a env S).bind fun x S => (evalE C i env S).bind fun y S => ofO S (subD S x y) := rfl
@[simp] theorem v_slc (lo hi : Option E) : evalE C (.slc a lo hi) env S = (evalE C a env S).bind fun x S => (part (semO C lo) env S).bind fun l S => (part (semO C hi) env S).bind fun h S => ofO S (slcD S l h x) := rfl
@[simp] theorem p_none : part (semO C none) env S = .ok none S := rfl
@[simp] theorem p_some : part (semO C (some a)) env S = (evalE C a env S).bind fun x S => (match x with | .d (.int i) => .ok (some i) S | _ => .er) := rfl
@[simp] theorem v_rev : evalE C (.rev a) env S = (evalE C a env S).bind fun x S => ofO S (revD x) := rfl
@[simp] theorem v_prop (c m : Nat) (f : Str) : evalE C (.prop c m f o) env S = (evalE C o env S).bind fun x S => if insOf S c x then noEx (C m [x] S) else .er := rfl
@[simp] theorem v_fld (c ix : Nat) (f : Str) : evalE C (.fld c ix f o) env S = (evalE C o env S).bind fun x S => ofO S (fldD S c ix f x) := rfl
@[simp] theorem a_fld (c ix : Nat) (f : Str) (v : Vl) : assignE C (.fld c ix f o) v env S = (evalE C o env S).bind fun x S => setFld c f x v env S := rfl
@[simp] theorem v_oeq (c m : Nat) : evalE C (.oeq c m a b) env S = (evalE C a env S).bind fun x S => (evalE C b env S).bind fun y S => if insOf S c x && (insOf S c y || isTupV y) then boolEx (C m [x, y] S) else .er := rfl
@[simp] theorem v_b1 (k : B1) : evalE C (.b1 k a) env S = (evalE C a env S).bind fun x S => ofO S (b1D S k x) := rfl
@[simp] theorem v_b2 (k : B2) : evalE C (.b2 k a b) env S = (evalE C a env S).bind fun x S => (evalE C b env S).bind fun y S => ofO S (b2D k x y) := rfl
@[simp] theorem v_mth (m : Mt) : evalE C (.mth m o es) env S = (evalE C o env S).bind fun x S => if recvOk S m x then (evalEs C es env S).bind fun vs S => mthD S m x vs else .er := rfl
/-- a comprehension's run, an instance's making: with the store as one letter -/
def lcRun (step : D → Sto → Re (Option D)) (xs : List D) (S : Sto) : Re Vl := lcLoop step S.length xs (S ++ [.lst []])
def mkRun (C : CallF) (c f : Nat) (fz : Option (List Str)) (vs : List Vl) (S : Sto) : Re Vl := made c S.length fz (C f (.r S.length :: vs) (S ++ [.ins c []]))
@[simp] theorem v_lc (own : List Nat) : evalE C (.lc own e tg it cs) env S = (evalI C it env S).bind fun xs S => lcRun (lcStep (sem C tg) own (tests (sems C cs)) (sem C e) env) xs S := rfl
@[simp] theorem v_mk (c f : Nat) (fz : Option (List Str)) : evalE C (.mk c f fz es) env S = (evalEs C es env S).bind fun vs S => mkRun C c f fz vs S := rfl
@[simp] theorem i_rng1_ : evalI C (.rng1 a) env S = (evalE C a env S).bind fun x S => rngI (.d (.int 0)) x S := rfl
@[simp] theorem i_rngD_ : evalI C (.rngD a b) env S = (evalE C a env S).bind fun x S => (evalE C b env S).bind fun y S => rngDn x y S := rfl
@[simp] theorem i_rng2_ : evalI C (.rng2 a b) env S = (evalE C a env S).bind fun x S => (evalE C b env S).bind fun y S => rngI x y S := rfl
@[simp] theorem i_enm_ : evalI C (.enm a) env S = (evalE C a env S).bind fun x S => enmI x S := rfl
@[simp] theorem enmI_T (xs : List D) : enmI (.d (.tuple xs)) S = .ok (enumD xs) S := rfl
@[simp] theorem enmI_L (xs : List D) : enmI (.d (.list xs)) S = .ok (enumD xs) S := rfl
theorem i_val (v : Ev → Sto → Re Vl) : (valM v).i env S = (v env S).bind fun x S => (match itemsD x with | some xs => .ok xs S | none => .er) := rfl
@[simp] theorem i_var_ (i : Nat) : evalI C (.var i) env S = (evalE C (.var i) env S).bind fun x S => (match itemsD x with | some xs => .ok xs S | none => .er) := rfl
@[simp] theorem i_b1_ (k : B1) : evalI C (.b1 k a) env S = (evalE C (.b1 k a) env S).bind fun x S => (match itemsD x with | some xs => .ok xs S | none => .er) := rfl
theorem t_of (v : Ev → Sto → Re Vl) : (valM v).t env S = (v env S).bind fun x S => (match truthV S x with | some k => .ok k S | none => .er) := rfl
@[simp] theorem t_var_ (i : Nat) : evalT C (.var i) env S = (evalE C (.var i) env S).bind fun x S => (match truthV S x with | some k => .ok k S | none => .er) := rfl
@[simp] theorem t_cmp_ (op : COp) : evalT C (.cmp op a b) env S = (evalE C (.cmp op a b) env S).bind fun x S => (match truthV S x with | some k => .ok k S | none => .er) := rfl
@[simp] theorem t_isi_ (t : Ty) : evalT C (.isi a t) env S = (evalE C (.isi a t) env S).bind fun x S => (match truthV S x with | some k => .ok k S | none => .er) := rfl
@[simp] theorem t_call_ (f : Nat) : evalT C (.call f es) env S = (evalE C (.call f es) env S).bind fun x S => (match truthV S x with | some k => .ok k S | none => .er) := rfl
@[simp] theorem t_lc_ (own : List Nat) : evalT C (.lc own e tg it cs) env S = (evalE C (.lc own e tg it cs) env S).bind fun x S => (match truthV S x with | some k => .ok k S | none => .er) := rfl
@[simp] theorem t_oeq_ (c m : Nat) : evalT C (.oeq c m a b) env S = (evalE C (.oeq c m a b) env S).bind fun x S => (match truthV S x with | some k => .ok k S | none => .er) := rfl
@[simp] theorem i_slc_ (lo hi : Option E) : evalI C (.slc a lo hi) env S = (evalE C (.slc a lo hi) env S).bind fun x S => (match itemsD x with | some xs => .ok xs S | none => .er) := rfl
@[simp] theorem i_call_ (f : Nat) : evalI C (.call f es) env S = (evalE C (.call f es) env S).bind fun x S => (match itemsD x with | some xs => .ok xs S | none => .er) := rfl
@[simp] theorem i_sub_  : evalI C (.sub a i) env S = (evalE C (.sub a i) env S).bind fun x S => (match itemsD x with | some xs => .ok xs S | none => .er) := rfl
@[simp] theorem i_bin_ (op : BOp) : evalI C (.bin op a b) env S = (evalE C (.bin op a b) env S).bind fun x S => (match itemsD x with | some xs => .ok xs S | none => .er) := rfl
@[simp] theorem i_lc_ (own : List Nat) : evalI C (.lc own e tg it cs) env S = (evalE C (.lc own e tg it cs) env S).bind fun x S => (match itemsD x with | some xs => .ok xs S | none => .er) := rfl
@[simp] theorem i_lst_  : evalI C (.lst es) env S = (evalE C (.lst es) env S).bind fun x S => (match itemsD x with | some xs => .ok xs S | none => .er) := rfl
@[simp] theorem i_tup_  : evalI C (.tup es) env S = (evalE C (.tup es) env S).bind fun x S => (match itemsD x with | some xs => .ok xs S | none => .er) := rfl
@[simp] theorem i_rev_  : evalI C (.rev a) env S = (evalE C (.rev a) env S).bind fun x S => (match itemsD x with | some xs => .ok xs S | none => .er) := rfl
@[simp] theorem i_mth_ (m : Mt) : evalI C (.mth m o es) env S = (evalE C (.mth m o es) env S).bind fun x S => (match itemsD x with | some xs => .ok xs S | none => .er) := rfl
@[simp] theorem i_prop_ (c m : Nat) (f : Str) : evalI C (.prop c m f o) env S = (evalE C (.prop c m f o) env S).bind fun x S => (match itemsD x with | some xs => .ok xs S | none => .er) := rfl
@[simp] theorem t_sub_  : evalT C (.sub a i) env S = (evalE C (.sub a i) env S).bind fun x S => (match truthV S x with | some k => .ok k S | none => .er) := rfl
@[simp] theorem t_con_ (d : D) : evalT C (.con d) env S = (evalE C (.con d) env S).bind fun x S => (match truthV S x with | some k => .ok k S | none => .er) := rfl
@[simp] theorem t_b1_ (k : B1) : evalT C (.b1 k a) env S = (evalE C (.b1 k a) env S).bind fun x S => (match truthV S x with | some k => .ok k S | none => .er) := rfl
@[simp] theorem t_bin_ (op : BOp) : evalT C (.bin op a b) env S = (evalE C (.bin op a b) env S).bind fun x S => (match truthV S x with | some k => .ok k S | none => .er) := rfl
@[simp] theorem t_mth_ (m : Mt) : evalT C (.mth m o es) env S = (evalE C (.mth m o es) env S).bind fun x S => (match truthV S x with | some k => .ok k S | none => .er) := rfl
@[simp] theorem t_prop_ (c m : Nat) (f : Str) : evalT C (.prop c m f o) env S = (evalE C (.prop c m f o) env S).bind fun x S => (match truthV S x with | some k => .ok k S | none => .er) := rfl
@[simp] theorem t_chain_ (o1 o2 : COp) : evalT C (.chain o1 o2 a b c) env S = (evalE C (.chain o1 o2 a b c) env S).bind fun x S => (match truthV S x with | some k => .ok k S | none => .er) := rfl
@[simp] theorem t_ife_  : evalT C (.ife c a b) env S = (evalE C (.ife c a b) env S).bind fun x S => (match truthV S x with | some k => .ok k S | none => .er) := rfl
@[simp] theorem t_slc_ (lo hi : Option E) : evalT C (.slc a lo hi) env S = (evalE C (.slc a lo hi) env S).bind fun x S => (match truthV S x with | some k => .ok k S | none => .er) := rfl
@[simp] theorem t_pick_ (fs : List Nat) : evalT C (.pick fs i es) env S = (evalE C (.pick fs i es) env S).bind fun x S => (match truthV S x with | some k => .ok k S | none => .er) := rfl
@[simp] theorem t_and_ : evalT C (.and a b) env S = (evalT C a env S).bind fun k S => if k then evalT C b env S else .ok false S := rfl
@[simp] theorem t_or_ : evalT C (.or a b) env S = (evalT C a env S).bind fun k S => if k then .ok true S else evalT C b env S := rfl
@[simp] theorem t_not_ : evalT C (.not a) env S = (evalT C a env S).bind fun k S => .ok (!k) S := rfl
@[simp] theorem ofB_some (k : Bool) : ofB S (some k) = .ok (.d (.bool k)) S := rfl
@[simp] theorem ofO_some (d : D) : ofO S (some d) = .ok (.d d) S := rfl
@[simp] theorem truth_b (k : Bool) : truthV S (.d (.bool k)) = some k := rfl
def lcT (r : Re Bool) (f : Sto → Re (Option D)) : Re (Option D) := match r with
  | .ok true S => f S
  | .ok false S => .ok none S
  | _ => .er
def lcV (r : Re Vl) : Re (Option D) := match r with
  | .ok (.d y) S => .ok (some y) S
  | _ => .er
def lcA (r : Re Ev) (f : Ev → Sto → Re (Option D)) : Re (Option D) := match r with
  | .ok env S => f env S
  | _ => .er
theorem lcStep_eq (tg e : E) (own : List Nat) (cs : List E) (x : D) : lcStep (sem C tg) own (tests (sems C cs)) (sem C e) env x S = lcA (assignE C tg (.d x) (wipeE env own) S) fun env1 S1 => lcT (tests (sems C cs) env1 S1) fun S2 => lcV (evalE C e env1 S2) := rfl
@[simp] theorem lcT_ok (k : Bool) (f : Sto → Re (Option D)) : lcT (.ok k S) f = if k then f S else .ok none S := by cases k <;> rfl
@[simp] theorem lcV_ok (y : D) : lcV (.ok (.d y) S) = .ok (some y) S := rfl
@[simp] theorem lcA_ok (f : Ev → Sto → Re (Option D)) : lcA (.ok env S) f = f env S := rfl
@[simp] theorem tupT_lst (es : List E) (m : Nat) (ds : List D) : tupT (sems C es) m (.d (.list ds)) env S = if Nat.beq ds.length m then asgs (sems C es) ds env S else .er := rfl
@[simp] theorem tupT_tup (es : List E) (m : Nat) (ds : List D) : tupT (sems C es) m (.d (.tuple ds)) env S = if Nat.beq ds.length m then asgs (sems C es) ds env S else .er := rfl
@[simp] theorem asgs_nil : asgs (sems C []) [] env S = .ok env S := rfl
@[simp] theorem asgs_cons (es : List E) (d : D) (ds : List D) : asgs (sems C (a :: es)) (d :: ds) env S = (assignE C a (.d d) env S).bind fun env S => asgs (sems C es) ds env S := rfl
@[simp] theorem eqVl_int (x y : Int) : eqVl S (.d (.int x)) (.d (.int y)) = some (x == y) := rfl
@[simp] theorem eqVl_bool (x y : Bool) : eqVl S (.d (.bool x)) (.d (.bool y)) = some (x == y) := by
  show (if (SeqAt.shaped (.bool x) && SeqAt.shaped (.bool y)) = true then some (PyData.eqv (.bool x) (.bool y)) else none) = _
  cases x <;> cases y <;> rfl
@[simp] theorem subD_list (xs : List D) (i : Int) : subD S (.d (.list xs)) (.d (.int i)) = atI xs i := rfl
@[simp] theorem subD_tuple (xs : List D) (i : Int) : subD S (.d (.tuple xs)) (.d (.int i)) = atI xs i := rfl
/-! ### loops -/
theorem for_nil (asg : D → Ev → Sto → Re Ev) (body : Ev → Sto → RS) : forLoop asg body [] env S = .nx env S := rfl
theorem for_cons (asg : D → Ev → Sto → Re Ev) (body : Ev → Sto → RS) (x : D) (r : List D) : forLoop asg body (x :: r) env S = (asg x env S).okS fun env S => (body env S).turn fun env S => forLoop asg body r env S := rfl
theorem lc_nil (step : D → Sto → Re (Option D)) (n : Nat) : lcLoop step n [] S = lcEnd n S := rfl
/-- a comprehension whose steps leave the store -/
theorem lc_pure {step : D → Sto → Re (Option D)} {f : D → Option D} : ∀ (xs acc : List D), (∀ x ∈ xs, ∀ acc : List D, acc.length ≤ 90000 → step x (S ++ [.lst acc]) = .ok (f x) (S ++ [.lst acc])) → acc.length + xs.length ≤ 90000 →
    lcLoop step S.length xs (S ++ [.lst acc]) = .ok (.d (.list (acc ++ xs.filterMap f))) S
  | [], acc, _, _ => by
    show lcEnd S.length (S ++ [.lst acc]) = _
    unfold lcEnd
    rw [List.getElem?_append_right (Nat.le_refl _), Nat.sub_self]
    simp
  | x :: r, acc, h, hl => by
    rw [List.length_cons] at hl
    unfold lcLoop
    rw [h x List.mem_cons_self acc (by omega)]
    cases hf : f x with
    | none =>
      simp only
      rw [lc_pure r acc (fun y hy => h y (List.mem_cons_of_mem _ hy)) (by omega), List.filterMap_cons, hf]
    | some y =>
      have hp : lcPut S.length y (S ++ [.lst acc]) = some (S ++ [.lst (acc ++ [y])]) := by
        unfold lcPut
        rw [List.getElem?_append_right (Nat.le_refl _), Nat.sub_self]
        have : inLine (acc.length + 1) = true := by unfold inLine; exact Nat.ble_eq.mpr (by omega)
        simp [this]
      simp only [hp]
      rw [lc_pure r (acc ++ [y]) (fun z hz => h z (List.mem_cons_of_mem _ hz)) (by simp; omega), List.filterMap_cons, hf]
      simp
end
/-! ### a loop that may end early -/
def ForRes (ok : Bool) (R : Ev → Prop) (V : Vl → Prop) (S : Sto) (r : RS) : Prop := (ok = true ∧ ∃ env, R env ∧ r = .nx env S) ∨ (ok = false ∧ ∃ v, V v ∧ r = .rt v S)
theorem for_res {asg : D → Ev → Sto → Re Ev} {body : Ev → Sto → RS} {p : D → Bool} {R : Ev → Prop} {V : Vl → Prop} {S : Sto} : ∀ (xs : List D) (env : Ev), (∀ x ∈ xs, ∀ env, R env → ∃ env1, asg x env S = .ok env1 S ∧ ForRes (p x) R V S (body env1 S)) → R env →
    ForRes (xs.all p) R V S (forLoop asg body xs env S)
  | [], env, _, h => .inl ⟨rfl, env, h, rfl⟩
  | x :: r, env, hs, h => by
    obtain ⟨env1, e1, h1⟩ := hs x List.mem_cons_self env h
    rw [for_cons, e1]
    show ForRes _ R V S ((body env1 S).turn fun env S => forLoop asg body r env S)
    rw [List.all_cons]
    rcases h1 with ⟨hp, env2, h2, e2⟩ | ⟨hp, v, hv, e2⟩
    · rw [e2, hp, Bool.true_and]
      exact for_res r env2 (fun y hy => hs y (List.mem_cons_of_mem _ hy)) h2
    · rw [e2, hp, Bool.false_and]
      exact .inr ⟨rfl, v, hv, rfl⟩
theorem ForRes.of {ok : Bool} {R : Ev → Prop} {V : Vl → Prop} {S : Sto} {q : Prop} [Decidable q] {env : Ev} {v : Vl} {r : RS} (e : r = if q then .nx env S else .rt v S) (hp : ok = decide q) (h1 : R env) (h2 : V v) : ForRes ok R V S r := by
  subst e hp
  by_cases h : q
  · rw [if_pos h]; exact .inl ⟨decide_eq_true h, env, h1, rfl⟩
  · rw [if_neg h]; exact .inr ⟨decide_eq_false h, v, h2, rfl⟩
theorem ForRes.nx {R : Ev → Prop} {V : Vl → Prop} {S : Sto} {env : Ev} (h : R env) : ForRes true R V S (.nx env S) := .inl ⟨rfl, env, h, rfl⟩
/-! ### plain data -/
theorem plain_tuple (xs : List D) : plainD (.tuple xs) = plainD.plainDs xs := by rw [plainD]
theorem plain_list (xs : List D) : plainD (.list xs) = plainD.plainDs xs := by rw [plainD]
theorem plains_iff : ∀ xs : List D, plainD.plainDs xs = true ↔ ∀ x ∈ xs, plainD x = true
  | [] => by simp [plainD.plainDs]
  | x :: r => by simp [plainD.plainDs, plains_iff r]
mutual
theorem eqv_iff : ∀ (x y : D), plainD x = true → plainD y = true → (PyData.eqv x y = true ↔ x = y)
  | .int i, y, _, hy => by cases y <;> simp [plainD, PyData.eqv] at hy ⊢
  | .str i, y, _, hy => by cases y <;> simp [plainD, PyData.eqv] at hy ⊢
  | .tuple xs, y, hx, hy => by
    cases y <;> simp [plainD, PyData.eqv] at hx hy ⊢
    exact eqvAll_iff xs _ hx hy
  | .list xs, y, hx, hy => by
    cases y <;> simp [plainD, PyData.eqv] at hx hy ⊢
    exact eqvAll_iff xs _ hx hy
  | .none, _, hx, _ => by simp [plainD] at hx
  | .bool _, _, hx, _ => by simp [plainD] at hx
  | .dict _, _, hx, _ => by simp [plainD] at hx
theorem eqvAll_iff : ∀ (xs ys : List D), plainD.plainDs xs = true → plainD.plainDs ys = true → (PyData.eqvAll xs ys = true ↔ xs = ys)
  | [], [], _, _ => by simp [PyData.eqvAll]
  | [], _ :: _, _, _ => by simp [PyData.eqvAll]
  | _ :: _, [], _, _ => by simp [PyData.eqvAll]
  | x :: xs, y :: ys, hx, hy => by
    simp only [plainD.plainDs, Bool.and_eq_true] at hx hy
    simp [PyData.eqvAll, eqv_iff x y hx.1 hy.1, eqvAll_iff xs ys hx.2 hy.2]
end
/-- no deeper than k, to be laid -/
def Sh (k : Nat) (d : D) : Prop := d.canLay0 = true ∧ d.depth ≤ k
theorem Sh.shaped {d : D} {k : Nat} (h : Sh k d) (hk : k ≤ 64) : SeqAt.shaped d = true := by
  unfold SeqAt.shaped
  rw [h.1, Bool.true_and]
  exact decide_eq_true (Nat.le_trans h.2 hk)
theorem sh_int (i : Int) (k : Nat) : Sh k (.int i) := ⟨rfl, Nat.zero_le _⟩
theorem sh_bool (i : Bool) (k : Nat) : Sh k (.bool i) := ⟨rfl, Nat.zero_le _⟩
theorem sh_all {k : Nat} : ∀ (xs : List D), (∀ x ∈ xs, Sh k x) → PyData.canLayAll0 xs = true ∧ PyData.depthAll xs ≤ k
  | [], _ => ⟨rfl, Nat.zero_le _⟩
  | x :: r, h => by
    obtain ⟨a, b⟩ := sh_all r fun y hy => h y (List.mem_cons_of_mem _ hy)
    obtain ⟨c, d⟩ := h x List.mem_cons_self
    exact ⟨by rw [PyData.canLayAll0, c, a]; rfl, by rw [PyData.depthAll]; exact Nat.max_le.mpr ⟨d, b⟩⟩
theorem sh_tup {k : Nat} {xs : List D} (h : ∀ x ∈ xs, Sh k x) : Sh (k + 1) (.tuple xs) := by
  obtain ⟨a, b⟩ := sh_all xs h
  exact ⟨by rw [PyData.canLay0]; exact a, by rw [PyData.depth]; omega⟩
theorem sh_lst {k : Nat} {xs : List D} (h : ∀ x ∈ xs, Sh k x) : Sh (k + 1) (.list xs) := by
  obtain ⟨a, b⟩ := sh_all xs h
  exact ⟨by rw [PyData.canLay0]; exact a, by rw [PyData.depth]; omega⟩
theorem Sh.mono {d : D} {j k : Nat} (h : Sh j d) (hk : j ≤ k) : Sh k d := ⟨h.1, Nat.le_trans h.2 hk⟩
theorem eqv_def {S : Sto} {x y : D} {j k : Nat} (hx : Sh j x) (hy : Sh k y) (hj : j ≤ 64) (hk : k ≤ 64) : eqVl S (.d x) (.d y) = some (PyData.eqv x y) := by
  show (if (SeqAt.shaped x && SeqAt.shaped y) = true then some (PyData.eqv x y) else none) = _
  rw [hx.shaped hj, hy.shaped hk]
  rfl
theorem inSeq_def {x : D} {ys : List D} {j k : Nat} (hx : Sh j x) (hy : ∀ y ∈ ys, Sh k y) (hj : j ≤ 64) (hk : k ≤ 63) : inSeq x ys = some (ys.any fun z => PyData.eqv z x) := by
  unfold inSeq
  rw [hx.shaped hj, (sh_lst hy).shaped (by omega)]
  rfl
theorem inSeq_mem {x : D} {ys : List D} {j k : Nat} (hx : Sh j x) (hy : ∀ y ∈ ys, Sh k y) (hj : j ≤ 64) (hk : k ≤ 63) (px : plainD x = true) (py : ∀ y ∈ ys, plainD y = true) : ∃ b, inSeq x ys = some b ∧ (b = true ↔ x ∈ ys) := by
  refine ⟨_, inSeq_def hx hy hj hk, ?_⟩
  rw [List.any_eq_true]
  constructor
  · rintro ⟨y, hy', e⟩
    rw [(eqv_iff y x (py y hy') px).mp e] at hy'
    exact hy'
  · intro h
    exact ⟨x, h, (eqv_iff x x px px).mpr rfl⟩
theorem inLine_of {n : Nat} (h : n ≤ 100000) : inLine n = true := Nat.ble_eq.mpr h
end Itp

set_option Elab.async false
set_option linter.all false
set_option autoImplicit false
set_option maxRecDepth 100000
set_option maxHeartbeats 0
namespace Law
open PySem L2 Itp
abbrev F_is_integer : Nat := 0
abbrev F_is_from : Nat := 1
abbrev F_is_pair : Nat := 2
abbrev F_Trade___init__ : Nat := 3
abbrev F_Trade_letters : Nat := 4
abbrev F_Trade_pairs : Nat := 5
abbrev F_Trade___eq__ : Nat := 6
abbrev F_check_trade : Nat := 7
abbrev F_may : Nat := 8
abbrev F_is_row : Nat := 9
abbrev F_check_row : Nat := 10
abbrev F_check_rows : Nat := 11
abbrev F_only : Nat := 12
abbrev F_first_unlike : Nat := 13
abbrev F_bar_of : Nat := 14
abbrev F_first_places : Nat := 15
abbrev F_without : Nat := 16
abbrev F_least_of : Nat := 17
abbrev F_least : Nat := 18
abbrev F_groups_of : Nat := 19
abbrev F_parts : Nat := 20
abbrev F_power : Nat := 21
abbrev F_first_part : Nat := 22
abbrev F_root : Nat := 23
abbrev F_either_way : Nat := 24
abbrev F__law_mix : Nat := 25
abbrev F__law_next : Nat := 26
abbrev F__law_pairs : Nat := 27
abbrev F__law_row : Nat := 28
abbrev F__law_may : Nat := 29
abbrev F__law_shaken : Nat := 30
abbrev F__law_class : Nat := 31
abbrev F__law_root : Nat := 32
abbrev F__law_power : Nat := 33
abbrev F_law : Nat := 34
def ir_is_integer : List Sm := [(.ret (.and (.isi (.var 0) .int) (.not (.isi (.var 0) .bool))))]
def ir_is_from : List Sm := [(.ret (.and (.call F_is_integer [(.var 0)]) (.chain .le .le (.var 1) (.var 0) (.var 2))))]
def ir_is_pair : List Sm := [(.ite (.or (.not (.isi (.var 0) .tuple)) (.cmp .ne (.b1 .len (.var 0)) (.con (.int 2)))) [(.ret (.con (.bool false)))] []), (.ret (.and (.call F_is_from [(.sub (.var 0) (.con (.int 0))), (.con (.int 0)), (.bin .sub (.var 1) (.con (.int 1)))]) (.call F_is_from [(.sub (.var 0) (.con (.int 1))), (.bin .add (.sub (.var 0) (.con (.int 0))) (.con (.int 1))), (.bin .sub (.var 1) (.con (.int 1)))])))]
def ir_Trade___init__ : List Sm := [(.ite (.not (.call F_is_from [(.var 1), (.con (.int 1)), (.glb "MOST_LETTERS" (.int 6))])) [(.rse 2 [])] []), (.ite (.not (.isi (.var 2) .tuple)) [.nev] []), (.for_ (.tup [(.var 3), (.var 4)]) (.enm (.var 2)) [(.ite (.not (.call F_is_pair [(.var 4), (.var 1)])) [.nev] []), (.ite (.and (.cmp .gt (.var 3) (.con (.int 0))) (.cmp .le (.var 4) (.sub (.var 2) (.bin .sub (.var 3) (.con (.int 1)))))) [.nev] [])]), (.asg (.fld 0 0 "held" (.var 0)) (.tup [(.var 1), (.var 2)]))]
def ir_Trade_letters : List Sm := [(.ret (.sub (.fld 0 0 "held" (.var 0)) (.con (.int 0))))]
def ir_Trade_pairs : List Sm := [(.ret (.sub (.fld 0 0 "held" (.var 0)) (.con (.int 1))))]
def ir_Trade___eq__ : List Sm := [(.ret (.and (.isi (.var 1) (.cls 0)) (.cmp .eq (.fld 0 0 "held" (.var 0)) (.fld 0 0 "held" (.var 1)))))]
def ir_check_trade : List Sm := [(.ite (.not (.isi (.var 0) (.cls 0))) [(.rse 4 [])] [])]
def ir_may : List Sm := [(.ret (.cmp .isIn (.tup [(.b2 .min (.var 1) (.var 2)), (.b2 .max (.var 1) (.var 2))]) (.sub (.fld 0 0 "held" (.var 0)) (.con (.int 1)))))]
def ir_is_row : List Sm := [(.ite (.or (.not (.isi (.var 0) .tuple)) (.cmp .gt (.b1 .len (.var 0)) (.glb "MOST_ROW" (.int 20)))) [(.ret (.con (.bool false)))] []), (.for_ (.var 2) (.var 0) [(.ite (.not (.call F_is_from [(.var 2), (.con (.int 0)), (.bin .sub (.var 1) (.con (.int 1)))])) [(.ret (.con (.bool false)))] [])]), (.ret (.con (.bool true)))]
def ir_check_row : List Sm := [(.exp (.call F_check_trade [(.var 0)])), (.ite (.not (.call F_is_row [(.var 1), (.sub (.fld 0 0 "held" (.var 0)) (.con (.int 0)))])) [(.rse 5 [])] [])]
def ir_check_rows : List Sm := [(.exp (.call F_check_row [(.var 0), (.var 1)])), (.exp (.call F_check_row [(.var 0), (.var 2)]))]
def ir_only : List Sm := [(.ret (.lc [2] (.var 2) (.var 2) (.var 0) [(.cmp .isIn (.var 2) (.var 1))]))]
def ir_first_unlike : List Sm := [(.for_ (.tup [(.var 2), (.var 3)]) (.enm (.var 0)) [(.ite (.cmp .ne (.var 3) (.sub (.var 1) (.var 2))) [(.ret (.var 2))] [])]), (.ret (.con .none))]
def ir_bar_of : List Sm := [(.asg (.var 3) (.sub (.fld 0 0 "held" (.var 0)) (.con (.int 0)))), (.for_ (.var 4) (.rng1 (.var 3)) [(.ite (.cmp .ne (.mth .countT (.var 1) [(.var 4)]) (.mth .countT (.var 2) [(.var 4)])) [(.ret (.tup [(.con (.str "letter")), (.var 4)]))] [])]), (.for_ (.var 5) (.rng1 (.var 3)) [(.for_ (.var 6) (.rng2 (.bin .add (.var 5) (.con (.int 1))) (.var 3)) [(.ite (.not (.call F_may [(.var 0), (.var 5), (.var 6)])) [(.asg (.var 7) (.call F_first_unlike [(.call F_only [(.var 1), (.tup [(.var 5), (.var 6)])]), (.call F_only [(.var 2), (.tup [(.var 5), (.var 6)])])])), (.ite (.cmp .notN (.var 7) (.con .none)) [(.ret (.tup [(.con (.str "pair")), (.var 5), (.var 6), (.var 7)]))] [])] [])])]), (.ret (.con .none))]
def ir_first_places : List Sm := [(.asg (.var 2) (.new [])), (.for_ (.tup [(.var 3), (.var 4)]) (.enm (.var 1)) [(.ite (.not (.lc [5] (.var 5) (.var 5) (.slc (.var 1) none (some (.var 3))) [(.not (.call F_may [(.var 0), (.var 5), (.var 4)]))])) [(.exp (.mth .append (.var 2) [(.var 3)]))] [])]), (.fz 2 (.ret (.var 2)))]
def ir_without : List Sm := [(.ret (.b1 .tuple (.lc [2, 3] (.var 3) (.tup [(.var 2), (.var 3)]) (.enm (.var 0)) [(.cmp .notIn (.var 2) (.var 1))])))]
def ir_least_of : List Sm := [(.asg (.var 2) (.new [])), (.asg (.var 3) (.var 1)), (.whl (.var 3) [(.asg (.tup [(.var 4), (.var 5)]) (.b1 .min (.lc [5] (.tup [(.sub (.var 3) (.var 5)), (.var 5)]) (.var 5) (.call F_first_places [(.var 0), (.var 3)]) []))), (.exp (.mth .append (.var 2) [(.var 4)])), (.asg (.var 3) (.call F_without [(.var 3), (.lst [(.var 5)])]))]), (.fz 2 (.ret (.b1 .tuple (.var 2))))]
def ir_least : List Sm := [(.exp (.call F_check_row [(.var 0), (.var 1)])), (.ret (.call F_least_of [(.var 0), (.var 1)]))]
def ir_groups_of : List Sm := [(.asg (.var 2) (.lst [])), (.for_ (.var 3) (.b1 .sortedSet (.var 1)) [(.asg (.var 4) (.new [(.var 3)])), (.asg (.var 5) (.new [])), (.for_ (.var 6) (.var 2) [(.ite (.lc [7] (.var 7) (.var 7) (.var 6) [(.not (.call F_may [(.var 0), (.var 7), (.var 3)]))]) [(.exp (.mth .extend (.var 4) [(.var 6)]))] [(.exp (.mth .append (.var 5) [(.var 6)]))])]), (.fz 5 (.fz 4 (.asg (.var 2) (.bin .add (.var 5) (.lst [(.var 4)])))))]), (.ret (.var 2))]
def ir_parts : List Sm := [(.exp (.call F_check_row [(.var 0), (.var 1)])), (.ret (.b1 .sorted (.lc [2] (.call F_least_of [(.var 0), (.b1 .tuple (.call F_only [(.var 1), (.var 2)]))]) (.var 2) (.call F_groups_of [(.var 0), (.var 1)]) [])))]
def ir_power : List Sm := [(.exp (.call F_check_row [(.var 0), (.var 1)])), (.ite (.not (.call F_is_from [(.var 2), (.con (.int 0)), (.glb "MOST_TIMES" (.int 20))])) [(.rse 6 [])] []), (.ite (.cmp .gt (.bin .mul (.b1 .len (.var 1)) (.var 2)) (.glb "MOST_ROW" (.int 20))) [(.rse 7 [])] []), (.ret (.call F_least_of [(.var 0), (.bin .mul (.var 1) (.var 2))]))]
def ir_first_part : List Sm := [(.asg (.var 2) .dnew), (.asg (.var 3) (.new [])), (.for_ (.var 4) (.var 0) [(.asg (.var 5) (.mth .get (.var 2) [(.var 4), (.con (.int 0))])), (.ite (.cmp .lt (.var 5) (.bin .fdiv (.mth .countT (.var 0) [(.var 4)]) (.var 1))) [(.exp (.mth .append (.var 3) [(.var 4)]))] []), (.asg (.sub (.var 2) (.var 4)) (.bin .add (.var 5) (.con (.int 1))))]), (.fz 3 (.ret (.b1 .tuple (.var 3))))]
def ir_root : List Sm := [(.exp (.call F_check_row [(.var 0), (.var 1)])), (.for_ (.var 2) (.rvr (.rng2 (.con (.int 2)) (.bin .add (.b1 .len (.var 1)) (.con (.int 1))))) [(.ite (.not (.lc [3] (.var 3) (.var 3) (.var 1) [(.bin .mod (.mth .countT (.var 1) [(.var 3)]) (.var 2))])) [(.asg (.var 4) (.call F_first_part [(.var 1), (.var 2)])), (.ite (.cmp .isN (.call F_bar_of [(.var 0), (.bin .mul (.var 4) (.var 2)), (.var 1)]) (.con .none)) [(.ret (.tup [(.call F_least_of [(.var 0), (.var 4)]), (.var 2)]))] [])] [])]), (.ret (.tup [(.call F_least_of [(.var 0), (.var 1)]), (.con (.int 1))]))]
def ir_either_way : List Sm := [(.exp (.call F_check_rows [(.var 0), (.var 1), (.var 2)])), (.ret (.cmp .isN (.call F_bar_of [(.var 0), (.bin .add (.var 1) (.var 2)), (.bin .add (.var 2) (.var 1))]) (.con .none)))]
def ir__law_pairs : List Sm := [(.par [2, 3] [(.call F__law_next [(.var 0), (.con (.int 5))]), (.new [])]), (.for_ (.var 4) (.rng1 (.var 1)) [(.for_ (.var 5) (.rng2 (.bin .add (.var 4) (.con (.int 1))) (.var 1)) [(.ite (.or (.cmp .eq (.var 2) (.con (.int 0))) (.and (.cmp .lt (.var 2) (.con (.int 4))) (.cmp .eq (.call F__law_next [(.var 0), (.con (.int 2))]) (.con (.int 0))))) [(.exp (.mth .append (.var 3) [(.tup [(.var 4), (.var 5)])]))] [])])]), (.fz 3 (.ret (.b1 .tuple (.var 3))))]
def ir__law_row : List Sm := [(.ret (.b1 .tuple (.lc [3] (.call F__law_next [(.var 0), (.var 1)]) (.var 3) (.rng1 (.call F__law_next [(.var 0), (.bin .add (.var 2) (.con (.int 1)))])) [])))]
def ir__law_may : List Sm := [(.ret (.or (.cmp .isIn (.tup [(.var 1), (.var 2)]) (.var 0)) (.cmp .isIn (.tup [(.var 2), (.var 1)]) (.var 0))))]
def ir__law_shaken : List Sm := [(.asg (.var 4) (.b1 .list (.var 2))), (.for_ (.var 5) (.rng1 (.var 3)) [(.asg (.var 6) (.call F__law_next [(.var 0), (.b2 .max (.con (.int 1)) (.bin .sub (.b1 .len (.var 4)) (.con (.int 1))))])), (.ite (.and (.cmp .lt (.bin .add (.var 6) (.con (.int 1))) (.b1 .len (.var 4))) (.call F__law_may [(.var 1), (.sub (.var 4) (.var 6)), (.sub (.var 4) (.bin .add (.var 6) (.con (.int 1))))])) [(.asg (.var 4) (.bin .add (.bin .add (.slc (.var 4) none (some (.var 6))) (.lst [(.sub (.var 4) (.bin .add (.var 6) (.con (.int 1)))), (.sub (.var 4) (.var 6))])) (.slc (.var 4) (some (.bin .add (.var 6) (.con (.int 2)))) none)))] [])]), (.ret (.b1 .tuple (.var 4)))]
def ir__law_class : List Sm := [(.par [2, 3, 4] [(.dn1 (.var 1) (.con (.int 0))), (.lst [(.var 1)]), (.con (.int 0))]), (.whl (.cmp .ne (.var 3) (.lst [])) [(.par [5, 4] [(.new []), (.bin .add (.var 4) (.con (.int 1)))]), (.for_ (.var 6) (.var 3) [(.for_ (.var 7) (.rng1 (.bin .sub (.b1 .len (.var 6)) (.con (.int 1)))) [(.ite (.call F__law_may [(.var 0), (.sub (.var 6) (.var 7)), (.sub (.var 6) (.bin .add (.var 7) (.con (.int 1))))]) [(.asg (.var 8) (.bin .add (.bin .add (.slc (.var 6) none (some (.var 7))) (.tup [(.sub (.var 6) (.bin .add (.var 7) (.con (.int 1)))), (.sub (.var 6) (.var 7))])) (.slc (.var 6) (some (.bin .add (.var 7) (.con (.int 2)))) none))), (.ite (.cmp .notIn (.var 8) (.var 2)) [(.asg (.sub (.var 2) (.var 8)) (.var 4)), (.exp (.mth .append (.var 5) [(.var 8)]))] [])] [])])]), (.fz 5 (.asg (.var 3) (.var 5)))]), (.fz 2 (.ret (.var 2)))]
def ir__law_root : List Sm := [(.asg (.var 2) (.call F__law_class [(.var 0), (.var 1)])), (.for_ (.var 3) (.rngD (.b1 .len (.var 1)) (.con (.int 1))) [(.asg (.var 4) (.bin .fdiv (.b1 .len (.var 1)) (.var 3))), (.ite (.cmp .eq (.bin .mul (.var 4) (.var 3)) (.b1 .len (.var 1))) [(.asg (.var 5) (.lc [6] (.slc (.var 6) none (some (.var 4))) (.var 6) (.var 2) [(.cmp .eq (.bin .mul (.slc (.var 6) none (some (.var 4))) (.var 3)) (.var 6))])), (.ite (.cmp .ne (.var 5) (.lst [])) [(.ret (.tup [(.b1 .min (.var 5)), (.var 3)]))] [])] [])]), (.ret (.tup [(.b1 .min (.b1 .list (.var 2))), (.con (.int 1))]))]
def ir__law_power : List Sm := [(.try_ [(.ret (.call F_power [(.var 0), (.var 1), (.var 2)]))] [(.hd [(2, false), (3, false), (4, false), (5, false), (6, false), (7, true)] none [(.ret (.con .none))])])]
def ir_law : List Sm := [(.asg (.var 1) (.call F__law_mix [(.var 0), (.con (.int 17))])), (.asg (.var 2) (.bin .add (.con (.int 1)) (.call F__law_next [(.var 1), (.con (.int 5))]))), (.asg (.var 3) (.call F__law_pairs [(.var 1), (.var 2)])), (.asg (.var 4) (.mk 0 F_Trade___init__ (some ["held"]) [(.var 2), (.var 3)])), (.asg (.var 5) (.call F__law_row [(.var 1), (.var 2), (.con (.int 3))])), (.asg (.var 6) (.slc (.call F__law_shaken [(.var 1), (.var 3), (.bin .mul (.var 5) (.sub (.lst [(.con (.int 1)), (.con (.int 2)), (.con (.int 2)), (.con (.int 3))]) (.call F__law_next [(.var 1), (.con (.int 4))]))), (.con (.int 12))]) none (some (.con (.int 6))))), (.ite (.cmp .ne (.call F_root [(.var 4), (.var 6)]) (.call F__law_root [(.var 3), (.var 6)])) [(.ret (.con (.bool false)))] []), (.asg (.var 7) (.call F__law_next [(.var 1), (.con (.int 9))])), (.asg (.var 8) (.ife (.cmp .le (.bin .mul (.b1 .len (.var 5)) (.var 7)) (.con (.int 20))) (.call F_least [(.var 4), (.bin .mul (.var 5) (.var 7))]) (.con .none))), (.asg (.var 9) (.call F__law_power [(.var 4), (.var 5), (.var 7)])), (.ite (.cmp .ne (.var 9) (.var 8)) [(.ret (.con (.bool false)))] []), (.ite (.and (.cmp .notN (.var 8) (.con .none)) (.and (.cmp .gt (.var 7) (.con (.int 0))) (.cmp .ne (.var 5) (.tup [])))) [(.asg (.tup [(.var 10), (.var 11)]) (.call F_root [(.var 4), (.var 5)])), (.ite (.cmp .ne (.call F_root [(.var 4), (.call F__law_shaken [(.var 1), (.var 3), (.var 8), (.con (.int 20))])]) (.tup [(.var 10), (.bin .mul (.var 11) (.var 7))])) [(.ret (.con (.bool false)))] [])] []), (.asg (.tup [(.var 12), (.var 13)]) (.tup [(.var 6), (.call F__law_shaken [(.var 1), (.var 3), (.bin .mul (.var 5) (.bin .add (.con (.int 1)) (.call F__law_next [(.var 1), (.con (.int 2))]))), (.con (.int 6))])])), (.ite (.cmp .eq (.call F__law_next [(.var 1), (.con (.int 2))]) (.con (.int 0))) [(.asg (.var 13) (.call F__law_row [(.var 1), (.var 2), (.con (.int 4))]))] []), (.ite (.or (.cmp .ne (.b1 .len (.call F_parts [(.var 4), (.var 12)])) (.con (.int 1))) (.cmp .ne (.b1 .len (.call F_parts [(.var 4), (.var 13)])) (.con (.int 1)))) [(.ret (.con (.bool true)))] []), (.asg (.var 14) (.cmp .eq (.lc [15] (.var 15) (.var 15) (.var 12) [(.cmp .ne (.lc [16] (.var 16) (.var 16) (.var 13) [(.not (.call F__law_may [(.var 3), (.var 15), (.var 16)]))]) (.lst []))]) (.lst []))), (.ret (.cmp .eq (.call F_either_way [(.var 4), (.var 12), (.var 13)]) (.or (.var 14) (.cmp .eq (.sub (.call F_root [(.var 4), (.var 12)]) (.con (.int 0))) (.sub (.call F_root [(.var 4), (.var 13)]) (.con (.int 0)))))))]
def G : List Fn := [⟨1, 1, .code ir_is_integer, false⟩, ⟨3, 3, .code ir_is_from, false⟩, ⟨2, 2, .code ir_is_pair, false⟩, ⟨3, 5, .code ir_Trade___init__, true⟩, ⟨1, 1, .code ir_Trade_letters, false⟩, ⟨1, 1, .code ir_Trade_pairs, false⟩, ⟨2, 2, .code ir_Trade___eq__, false⟩, ⟨1, 1, .code ir_check_trade, false⟩, ⟨3, 3, .code ir_may, false⟩, ⟨2, 3, .code ir_is_row, false⟩, ⟨2, 2, .code ir_check_row, false⟩, ⟨3, 3, .code ir_check_rows, false⟩, ⟨2, 3, .code ir_only, false⟩, ⟨2, 4, .code ir_first_unlike, false⟩, ⟨3, 8, .code ir_bar_of, false⟩, ⟨2, 6, .code ir_first_places, false⟩, ⟨2, 4, .code ir_without, false⟩, ⟨2, 6, .code ir_least_of, false⟩, ⟨2, 2, .code ir_least, false⟩, ⟨2, 8, .code ir_groups_of, false⟩, ⟨2, 3, .code ir_parts, false⟩, ⟨3, 3, .code ir_power, false⟩, ⟨2, 6, .code ir_first_part, false⟩, ⟨2, 5, .code ir_root, false⟩, ⟨3, 3, .code ir_either_way, false⟩, ⟨2, 4, .mix, true⟩, ⟨2, 4, .next, true⟩, ⟨2, 6, .code ir__law_pairs, false⟩, ⟨3, 4, .code ir__law_row, false⟩, ⟨3, 3, .code ir__law_may, false⟩, ⟨4, 7, .code ir__law_shaken, false⟩, ⟨2, 9, .code ir__law_class, false⟩, ⟨2, 7, .code ir__law_root, false⟩, ⟨3, 3, .code ir__law_power, false⟩, ⟨1, 17, .code ir_law, false⟩]
theorem en_is_integer {n : Nat} (hn : 1 ≤ n) {S : Sto} {x0 : Vl} : runFn G 1000 n F_is_integer [x0] S = endFn false S.length (execSs (runFn G 1000 (n - 1)) 1000 ir_is_integer [some x0] S) := by
  obtain ⟨m, rfl⟩ : ∃ m, n = m + 1 := ⟨n - 1, by omega⟩
  exact runFn_eq (F := ⟨1, 1, (.code ir_is_integer), false⟩) rfl rfl
theorem en_is_from {n : Nat} (hn : 1 ≤ n) {S : Sto} {x0 x1 x2 : Vl} : runFn G 1000 n F_is_from [x0, x1, x2] S = endFn false S.length (execSs (runFn G 1000 (n - 1)) 1000 ir_is_from [some x0, some x1, some x2] S) := by
  obtain ⟨m, rfl⟩ : ∃ m, n = m + 1 := ⟨n - 1, by omega⟩
  exact runFn_eq (F := ⟨3, 3, (.code ir_is_from), false⟩) rfl rfl
theorem en_is_pair {n : Nat} (hn : 1 ≤ n) {S : Sto} {x0 x1 : Vl} : runFn G 1000 n F_is_pair [x0, x1] S = endFn false S.length (execSs (runFn G 1000 (n - 1)) 1000 ir_is_pair [some x0, some x1] S) := by
  obtain ⟨m, rfl⟩ : ∃ m, n = m + 1 := ⟨n - 1, by omega⟩
  exact runFn_eq (F := ⟨2, 2, (.code ir_is_pair), false⟩) rfl rfl
theorem en_Trade___init__ {n : Nat} (hn : 1 ≤ n) {S : Sto} {x0 x1 x2 : Vl} : runFn G 1000 n F_Trade___init__ [x0, x1, x2] S = endFn true S.length (execSs (runFn G 1000 (n - 1)) 1000 ir_Trade___init__ [some x0, some x1, some x2, none, none] S) := by
  obtain ⟨m, rfl⟩ : ∃ m, n = m + 1 := ⟨n - 1, by omega⟩
  exact runFn_eq (F := ⟨3, 5, (.code ir_Trade___init__), true⟩) rfl rfl
theorem en_Trade_letters {n : Nat} (hn : 1 ≤ n) {S : Sto} {x0 : Vl} : runFn G 1000 n F_Trade_letters [x0] S = endFn false S.length (execSs (runFn G 1000 (n - 1)) 1000 ir_Trade_letters [some x0] S) := by
  obtain ⟨m, rfl⟩ : ∃ m, n = m + 1 := ⟨n - 1, by omega⟩
  exact runFn_eq (F := ⟨1, 1, (.code ir_Trade_letters), false⟩) rfl rfl
theorem en_Trade_pairs {n : Nat} (hn : 1 ≤ n) {S : Sto} {x0 : Vl} : runFn G 1000 n F_Trade_pairs [x0] S = endFn false S.length (execSs (runFn G 1000 (n - 1)) 1000 ir_Trade_pairs [some x0] S) := by
  obtain ⟨m, rfl⟩ : ∃ m, n = m + 1 := ⟨n - 1, by omega⟩
  exact runFn_eq (F := ⟨1, 1, (.code ir_Trade_pairs), false⟩) rfl rfl
theorem en_Trade___eq__ {n : Nat} (hn : 1 ≤ n) {S : Sto} {x0 x1 : Vl} : runFn G 1000 n F_Trade___eq__ [x0, x1] S = endFn false S.length (execSs (runFn G 1000 (n - 1)) 1000 ir_Trade___eq__ [some x0, some x1] S) := by
  obtain ⟨m, rfl⟩ : ∃ m, n = m + 1 := ⟨n - 1, by omega⟩
  exact runFn_eq (F := ⟨2, 2, (.code ir_Trade___eq__), false⟩) rfl rfl
theorem en_check_trade {n : Nat} (hn : 1 ≤ n) {S : Sto} {x0 : Vl} : runFn G 1000 n F_check_trade [x0] S = endFn false S.length (execSs (runFn G 1000 (n - 1)) 1000 ir_check_trade [some x0] S) := by
  obtain ⟨m, rfl⟩ : ∃ m, n = m + 1 := ⟨n - 1, by omega⟩
  exact runFn_eq (F := ⟨1, 1, (.code ir_check_trade), false⟩) rfl rfl
theorem en_may {n : Nat} (hn : 1 ≤ n) {S : Sto} {x0 x1 x2 : Vl} : runFn G 1000 n F_may [x0, x1, x2] S = endFn false S.length (execSs (runFn G 1000 (n - 1)) 1000 ir_may [some x0, some x1, some x2] S) := by
  obtain ⟨m, rfl⟩ : ∃ m, n = m + 1 := ⟨n - 1, by omega⟩
  exact runFn_eq (F := ⟨3, 3, (.code ir_may), false⟩) rfl rfl
theorem en_is_row {n : Nat} (hn : 1 ≤ n) {S : Sto} {x0 x1 : Vl} : runFn G 1000 n F_is_row [x0, x1] S = endFn false S.length (execSs (runFn G 1000 (n - 1)) 1000 ir_is_row [some x0, some x1, none] S) := by
  obtain ⟨m, rfl⟩ : ∃ m, n = m + 1 := ⟨n - 1, by omega⟩
  exact runFn_eq (F := ⟨2, 3, (.code ir_is_row), false⟩) rfl rfl
theorem en_check_row {n : Nat} (hn : 1 ≤ n) {S : Sto} {x0 x1 : Vl} : runFn G 1000 n F_check_row [x0, x1] S = endFn false S.length (execSs (runFn G 1000 (n - 1)) 1000 ir_check_row [some x0, some x1] S) := by
  obtain ⟨m, rfl⟩ : ∃ m, n = m + 1 := ⟨n - 1, by omega⟩
  exact runFn_eq (F := ⟨2, 2, (.code ir_check_row), false⟩) rfl rfl
theorem en_check_rows {n : Nat} (hn : 1 ≤ n) {S : Sto} {x0 x1 x2 : Vl} : runFn G 1000 n F_check_rows [x0, x1, x2] S = endFn false S.length (execSs (runFn G 1000 (n - 1)) 1000 ir_check_rows [some x0, some x1, some x2] S) := by
  obtain ⟨m, rfl⟩ : ∃ m, n = m + 1 := ⟨n - 1, by omega⟩
  exact runFn_eq (F := ⟨3, 3, (.code ir_check_rows), false⟩) rfl rfl
theorem en_only {n : Nat} (hn : 1 ≤ n) {S : Sto} {x0 x1 : Vl} : runFn G 1000 n F_only [x0, x1] S = endFn false S.length (execSs (runFn G 1000 (n - 1)) 1000 ir_only [some x0, some x1, none] S) := by
  obtain ⟨m, rfl⟩ : ∃ m, n = m + 1 := ⟨n - 1, by omega⟩
  exact runFn_eq (F := ⟨2, 3, (.code ir_only), false⟩) rfl rfl
theorem en_first_unlike {n : Nat} (hn : 1 ≤ n) {S : Sto} {x0 x1 : Vl} : runFn G 1000 n F_first_unlike [x0, x1] S = endFn false S.length (execSs (runFn G 1000 (n - 1)) 1000 ir_first_unlike [some x0, some x1, none, none] S) := by
  obtain ⟨m, rfl⟩ : ∃ m, n = m + 1 := ⟨n - 1, by omega⟩
  exact runFn_eq (F := ⟨2, 4, (.code ir_first_unlike), false⟩) rfl rfl
theorem en_bar_of {n : Nat} (hn : 1 ≤ n) {S : Sto} {x0 x1 x2 : Vl} : runFn G 1000 n F_bar_of [x0, x1, x2] S = endFn false S.length (execSs (runFn G 1000 (n - 1)) 1000 ir_bar_of [some x0, some x1, some x2, none, none, none, none, none] S) := by
  obtain ⟨m, rfl⟩ : ∃ m, n = m + 1 := ⟨n - 1, by omega⟩
  exact runFn_eq (F := ⟨3, 8, (.code ir_bar_of), false⟩) rfl rfl
theorem en_first_places {n : Nat} (hn : 1 ≤ n) {S : Sto} {x0 x1 : Vl} : runFn G 1000 n F_first_places [x0, x1] S = endFn false S.length (execSs (runFn G 1000 (n - 1)) 1000 ir_first_places [some x0, some x1, none, none, none, none] S) := by
  obtain ⟨m, rfl⟩ : ∃ m, n = m + 1 := ⟨n - 1, by omega⟩
  exact runFn_eq (F := ⟨2, 6, (.code ir_first_places), false⟩) rfl rfl
theorem en_without {n : Nat} (hn : 1 ≤ n) {S : Sto} {x0 x1 : Vl} : runFn G 1000 n F_without [x0, x1] S = endFn false S.length (execSs (runFn G 1000 (n - 1)) 1000 ir_without [some x0, some x1, none, none] S) := by
  obtain ⟨m, rfl⟩ : ∃ m, n = m + 1 := ⟨n - 1, by omega⟩
  exact runFn_eq (F := ⟨2, 4, (.code ir_without), false⟩) rfl rfl
theorem en_least_of {n : Nat} (hn : 1 ≤ n) {S : Sto} {x0 x1 : Vl} : runFn G 1000 n F_least_of [x0, x1] S = endFn false S.length (execSs (runFn G 1000 (n - 1)) 1000 ir_least_of [some x0, some x1, none, none, none, none] S) := by
  obtain ⟨m, rfl⟩ : ∃ m, n = m + 1 := ⟨n - 1, by omega⟩
  exact runFn_eq (F := ⟨2, 6, (.code ir_least_of), false⟩) rfl rfl
theorem en_least {n : Nat} (hn : 1 ≤ n) {S : Sto} {x0 x1 : Vl} : runFn G 1000 n F_least [x0, x1] S = endFn false S.length (execSs (runFn G 1000 (n - 1)) 1000 ir_least [some x0, some x1] S) := by
  obtain ⟨m, rfl⟩ : ∃ m, n = m + 1 := ⟨n - 1, by omega⟩
  exact runFn_eq (F := ⟨2, 2, (.code ir_least), false⟩) rfl rfl
theorem en_groups_of {n : Nat} (hn : 1 ≤ n) {S : Sto} {x0 x1 : Vl} : runFn G 1000 n F_groups_of [x0, x1] S = endFn false S.length (execSs (runFn G 1000 (n - 1)) 1000 ir_groups_of [some x0, some x1, none, none, none, none, none, none] S) := by
  obtain ⟨m, rfl⟩ : ∃ m, n = m + 1 := ⟨n - 1, by omega⟩
  exact runFn_eq (F := ⟨2, 8, (.code ir_groups_of), false⟩) rfl rfl
theorem en_parts {n : Nat} (hn : 1 ≤ n) {S : Sto} {x0 x1 : Vl} : runFn G 1000 n F_parts [x0, x1] S = endFn false S.length (execSs (runFn G 1000 (n - 1)) 1000 ir_parts [some x0, some x1, none] S) := by
  obtain ⟨m, rfl⟩ : ∃ m, n = m + 1 := ⟨n - 1, by omega⟩
  exact runFn_eq (F := ⟨2, 3, (.code ir_parts), false⟩) rfl rfl
theorem en_power {n : Nat} (hn : 1 ≤ n) {S : Sto} {x0 x1 x2 : Vl} : runFn G 1000 n F_power [x0, x1, x2] S = endFn false S.length (execSs (runFn G 1000 (n - 1)) 1000 ir_power [some x0, some x1, some x2] S) := by
  obtain ⟨m, rfl⟩ : ∃ m, n = m + 1 := ⟨n - 1, by omega⟩
  exact runFn_eq (F := ⟨3, 3, (.code ir_power), false⟩) rfl rfl
theorem en_first_part {n : Nat} (hn : 1 ≤ n) {S : Sto} {x0 x1 : Vl} : runFn G 1000 n F_first_part [x0, x1] S = endFn false S.length (execSs (runFn G 1000 (n - 1)) 1000 ir_first_part [some x0, some x1, none, none, none, none] S) := by
  obtain ⟨m, rfl⟩ : ∃ m, n = m + 1 := ⟨n - 1, by omega⟩
  exact runFn_eq (F := ⟨2, 6, (.code ir_first_part), false⟩) rfl rfl
theorem en_root {n : Nat} (hn : 1 ≤ n) {S : Sto} {x0 x1 : Vl} : runFn G 1000 n F_root [x0, x1] S = endFn false S.length (execSs (runFn G 1000 (n - 1)) 1000 ir_root [some x0, some x1, none, none, none] S) := by
  obtain ⟨m, rfl⟩ : ∃ m, n = m + 1 := ⟨n - 1, by omega⟩
  exact runFn_eq (F := ⟨2, 5, (.code ir_root), false⟩) rfl rfl
theorem en_either_way {n : Nat} (hn : 1 ≤ n) {S : Sto} {x0 x1 x2 : Vl} : runFn G 1000 n F_either_way [x0, x1, x2] S = endFn false S.length (execSs (runFn G 1000 (n - 1)) 1000 ir_either_way [some x0, some x1, some x2] S) := by
  obtain ⟨m, rfl⟩ : ∃ m, n = m + 1 := ⟨n - 1, by omega⟩
  exact runFn_eq (F := ⟨3, 3, (.code ir_either_way), false⟩) rfl rfl
theorem en__law_mix {n : Nat} (hn : 1 ≤ n) {S : Sto} {x0 x1 : Vl} : runFn G 1000 n F__law_mix [x0, x1] S = mixFn [x0, x1] S := by
  obtain ⟨m, rfl⟩ : ∃ m, n = m + 1 := ⟨n - 1, by omega⟩
  exact runFn_eq (F := ⟨2, 4, (.mix), true⟩) rfl rfl
theorem en__law_next {n : Nat} (hn : 1 ≤ n) {S : Sto} {x0 x1 : Vl} : runFn G 1000 n F__law_next [x0, x1] S = nextFn [x0, x1] S := by
  obtain ⟨m, rfl⟩ : ∃ m, n = m + 1 := ⟨n - 1, by omega⟩
  exact runFn_eq (F := ⟨2, 4, (.next), true⟩) rfl rfl
theorem en__law_pairs {n : Nat} (hn : 1 ≤ n) {S : Sto} {x0 x1 : Vl} : runFn G 1000 n F__law_pairs [x0, x1] S = endFn false S.length (execSs (runFn G 1000 (n - 1)) 1000 ir__law_pairs [some x0, some x1, none, none, none, none] S) := by
  obtain ⟨m, rfl⟩ : ∃ m, n = m + 1 := ⟨n - 1, by omega⟩
  exact runFn_eq (F := ⟨2, 6, (.code ir__law_pairs), false⟩) rfl rfl
theorem en__law_row {n : Nat} (hn : 1 ≤ n) {S : Sto} {x0 x1 x2 : Vl} : runFn G 1000 n F__law_row [x0, x1, x2] S = endFn false S.length (execSs (runFn G 1000 (n - 1)) 1000 ir__law_row [some x0, some x1, some x2, none] S) := by
  obtain ⟨m, rfl⟩ : ∃ m, n = m + 1 := ⟨n - 1, by omega⟩
  exact runFn_eq (F := ⟨3, 4, (.code ir__law_row), false⟩) rfl rfl
theorem en__law_may {n : Nat} (hn : 1 ≤ n) {S : Sto} {x0 x1 x2 : Vl} : runFn G 1000 n F__law_may [x0, x1, x2] S = endFn false S.length (execSs (runFn G 1000 (n - 1)) 1000 ir__law_may [some x0, some x1, some x2] S) := by
  obtain ⟨m, rfl⟩ : ∃ m, n = m + 1 := ⟨n - 1, by omega⟩
  exact runFn_eq (F := ⟨3, 3, (.code ir__law_may), false⟩) rfl rfl
theorem en__law_shaken {n : Nat} (hn : 1 ≤ n) {S : Sto} {x0 x1 x2 x3 : Vl} : runFn G 1000 n F__law_shaken [x0, x1, x2, x3] S = endFn false S.length (execSs (runFn G 1000 (n - 1)) 1000 ir__law_shaken [some x0, some x1, some x2, some x3, none, none, none] S) := by
  obtain ⟨m, rfl⟩ : ∃ m, n = m + 1 := ⟨n - 1, by omega⟩
  exact runFn_eq (F := ⟨4, 7, (.code ir__law_shaken), false⟩) rfl rfl
theorem en__law_class {n : Nat} (hn : 1 ≤ n) {S : Sto} {x0 x1 : Vl} : runFn G 1000 n F__law_class [x0, x1] S = endFn false S.length (execSs (runFn G 1000 (n - 1)) 1000 ir__law_class [some x0, some x1, none, none, none, none, none, none, none] S) := by
  obtain ⟨m, rfl⟩ : ∃ m, n = m + 1 := ⟨n - 1, by omega⟩
  exact runFn_eq (F := ⟨2, 9, (.code ir__law_class), false⟩) rfl rfl
theorem en__law_root {n : Nat} (hn : 1 ≤ n) {S : Sto} {x0 x1 : Vl} : runFn G 1000 n F__law_root [x0, x1] S = endFn false S.length (execSs (runFn G 1000 (n - 1)) 1000 ir__law_root [some x0, some x1, none, none, none, none, none] S) := by
  obtain ⟨m, rfl⟩ : ∃ m, n = m + 1 := ⟨n - 1, by omega⟩
  exact runFn_eq (F := ⟨2, 7, (.code ir__law_root), false⟩) rfl rfl
theorem en__law_power {n : Nat} (hn : 1 ≤ n) {S : Sto} {x0 x1 x2 : Vl} : runFn G 1000 n F__law_power [x0, x1, x2] S = endFn false S.length (execSs (runFn G 1000 (n - 1)) 1000 ir__law_power [some x0, some x1, some x2] S) := by
  obtain ⟨m, rfl⟩ : ∃ m, n = m + 1 := ⟨n - 1, by omega⟩
  exact runFn_eq (F := ⟨3, 3, (.code ir__law_power), false⟩) rfl rfl
theorem en_law {n : Nat} (hn : 1 ≤ n) {S : Sto} {x0 : Vl} : runFn G 1000 n F_law [x0] S = endFn false S.length (execSs (runFn G 1000 (n - 1)) 1000 ir_law [some x0, none, none, none, none, none, none, none, none, none, none, none, none, none, none, none, none] S) := by
  obtain ⟨m, rfl⟩ : ∃ m, n = m + 1 := ⟨n - 1, by omega⟩
  exact runFn_eq (F := ⟨1, 17, (.code ir_law), false⟩) rfl rfl
end Law

set_option Elab.async false
set_option linter.all false
set_option autoImplicit false
set_option maxRecDepth 100000
set_option maxHeartbeats 4000000
/-! What a run of the interpreter ends in, by what is wanted of its end. -/
namespace Itp
open PySem L2
section
variable {α β : Type}
def wp (r : Re α) (Q : α → Sto → Prop) : Prop := match r with
  | .ok a S => Q a S
  | _ => False
def wpS (r : RS) (N B C : Ev → Sto → Prop) (R : Vl → Sto → Prop) : Prop := match r with
  | .nx e S => N e S
  | .bk e S => B e S
  | .ct e S => C e S
  | .rt v S => R v S
  | _ => False
theorem wp_eq {r : Re α} {v : α} {S : Sto} (h : wp r fun a S' => a = v ∧ S' = S) : r = .ok v S := by
  cases r with
  | ok a S' => obtain ⟨rfl, rfl⟩ := h; rfl
  | ex c fs S => exact h.elim
  | er => exact h.elim
theorem wp_ex {r : Re α} {Q : α → Sto → Prop} (h : wp r Q) : ∃ a S, r = .ok a S ∧ Q a S := by
  cases r with
  | ok a S' => exact ⟨a, S', rfl, h⟩
  | ex c fs S => exact h.elim
  | er => exact h.elim
theorem wp_of {r : Re α} {a : α} {S : Sto} {Q : α → Sto → Prop} (e : r = .ok a S) (h : Q a S) : wp r Q := by rw [e]; exact h
theorem wp_imp {r : Re α} {Q Q' : α → Sto → Prop} (h : wp r Q) (k : ∀ a S, Q a S → Q' a S) : wp r Q' := by
  cases r with
  | ok a S' => exact k _ _ h
  | ex c fs S => exact h.elim
  | er => exact h.elim
theorem wpS_imp {r : RS} {N B C N' B' C' : Ev → Sto → Prop} {R R' : Vl → Sto → Prop} (h : wpS r N B C R) (kN : ∀ e S, N e S → N' e S) (kB : ∀ e S, B e S → B' e S) (kC : ∀ e S, C e S → C' e S) (kR : ∀ v S, R v S → R' v S) : wpS r N' B' C' R' := by
  cases r with
  | nx e S => exact kN _ _ h
  | bk e S => exact kB _ _ h
  | ct e S => exact kC _ _ h
  | rt v S => exact kR _ _ h
  | ex c fs e S => exact h.elim
  | er => exact h.elim
section
variable {Q : β → Sto → Prop} {N B C : Ev → Sto → Prop} {R : Vl → Sto → Prop} {S : Sto} {env : Ev}
@[simp] theorem wp_ok (a : β) : wp (.ok a S) Q = Q a S := rfl
@[simp] theorem wp_er : wp (.er : Re β) Q = False := rfl
@[simp] theorem wp_bind (r : Re α) (f : α → Sto → Re β) : wp (r.bind f) Q = wp r fun a S => wp (f a S) Q := by cases r <;> rfl
@[simp] theorem wp_ite (k : Prop) [Decidable k] (x y : Re β) : wp (if k then x else y) Q = if k then wp x Q else wp y Q := by split <;> rfl
@[simp] theorem wpS_nx : wpS (.nx env S) N B C R = N env S := rfl
@[simp] theorem wpS_bk : wpS (.bk env S) N B C R = B env S := rfl
@[simp] theorem wpS_ct : wpS (.ct env S) N B C R = C env S := rfl
@[simp] theorem wpS_rt (v : Vl) : wpS (.rt v S) N B C R = R v S := rfl
@[simp] theorem wpS_er : wpS .er N B C R = False := rfl
@[simp] theorem wpS_ite (k : Prop) [Decidable k] (x y : RS) : wpS (if k then x else y) N B C R = if k then wpS x N B C R else wpS y N B C R := by split <;> rfl
@[simp] theorem wpS_bind (r : RS) (f : Ev → Sto → RS) : wpS (r.bind f) N B C R = wpS r (fun e S => wpS (f e S) N B C R) B C R := by cases r <;> rfl
@[simp] theorem wpS_bindS (r : Re α) (f : α → Sto → RS) : wpS (r.bindS env f) N B C R = wp r fun a S => wpS (f a S) N B C R := by cases r <;> rfl
@[simp] theorem wpS_okS (r : Re α) (f : α → Sto → RS) : wpS (r.okS f) N B C R = wp r fun a S => wpS (f a S) N B C R := by cases r <;> rfl
@[simp] theorem wpS_turn (r : RS) (f : Ev → Sto → RS) : wpS (r.turn f) N B C R = wpS r (fun e S => wpS (f e S) N B C R) N (fun e S => wpS (f e S) N B C R) R := by cases r <;> rfl
end
/-- what a def hands back -/
def isD : Vl → (D → Prop) → Prop
  | .d x, k => k x
  | _, _ => False
@[simp] theorem isD_d (x : D) (k : D → Prop) : isD (.d x) k = k x := rfl
section
variable {Q : Vl → Sto → Prop}
@[simp] theorem wp_endF (n : Nat) (r : RS) : wp (endFn false n r) Q = wpS r (fun _ S => Q (.d .none) (S.take n)) (fun _ _ => False) (fun _ _ => False) (fun v S => isD v fun x => Q (.d x) (S.take n)) := by
  cases r with
  | rt v S => cases v <;> rfl
  | _ => rfl
@[simp] theorem wp_endT (n : Nat) (r : RS) : wp (endFn true n r) Q = wpS r (fun _ S => Q (.d .none) S) (fun _ _ => False) (fun _ _ => False) (fun v S => Q v S) := by
  cases r with
  | rt v S => cases v <;> rfl
  | _ => rfl
end
section
variable {Q : Option D → Sto → Prop}
@[simp] theorem wp_lcA (r : Re Ev) (f : Ev → Sto → Re (Option D)) : wp (lcA r f) Q = wp r fun e S => wp (f e S) Q := by cases r <;> rfl
@[simp] theorem wp_lcT (r : Re Bool) (f : Sto → Re (Option D)) : wp (lcT r f) Q = wp r fun k S => if k then wp (f S) Q else Q none S := by
  cases r with
  | ok k S => cases k <;> rfl
  | _ => rfl
@[simp] theorem wp_lcV (r : Re Vl) : wp (lcV r) Q = wp r fun v S => isD v fun y => Q (some y) S := by
  cases r with
  | ok v S => cases v <;> rfl
  | _ => rfl
end
/-- one statement ahead of the others, what follows a letter -/
theorem seq {C : CallF} {fu : Nat} {s : Sm} {r : List Sm} {env : Ev} {S : Sto} {N B D : Ev → Sto → Prop} {R : Vl → Sto → Prop} (h : ∀ K : Ev → Sto → Prop, (∀ e S, wpS (execSs C fu r e S) N B D R → K e S) → wpS (execS C fu s env S) K B D R) : wpS (execSs C fu (s :: r) env S) N B D R := by
  rw [execSs_cons, wpS_bind]
  exact h _ fun _ _ h => h
/-- a loop's invariant as a letter -/
theorem mkI {γ : Type} (J : γ → Ev → Sto → Prop) : ∃ I : γ → Ev → Sto → Prop, ∀ a e S, I a e S ↔ J a e S := ⟨J, fun _ _ _ => Iff.rfl⟩
/-! ### loops -/
section
variable {asg : D → Ev → Sto → Re Ev} {body : Ev → Sto → RS} {N B C : Ev → Sto → Prop} {R : Vl → Sto → Prop}
theorem wp_forA {xs : List D} : ∀ (k : Nat) (I : Nat → Ev → Sto → Prop), (∀ (i : Nat) x env S, xs[i]? = some x → I i env S → wp (asg x env S) fun env S => wpS (body env S) (I (i + 1)) N (I (i + 1)) R) → (∀ env S, I xs.length env S → N env S) → ∀ (i : Nat) env S, i + k = xs.length → I i env S → wpS (forLoop asg body (xs.drop i) env S) N B C R := by
  intro k
  induction k with
  | zero =>
    intro I hs he i env S hi h0
    have : i = xs.length := by omega
    subst this
    rw [List.drop_length]
    exact he _ _ h0
  | succ k ih =>
    intro I hs he i env S hi h0
    have hlt : i < xs.length := by omega
    rw [List.drop_eq_getElem_cons hlt, for_cons, wpS_okS]
    refine wp_imp (hs i xs[i] env S (List.getElem?_eq_getElem hlt) h0) fun e1 S1 h1 => ?_
    rw [wpS_turn]
    exact wpS_imp h1 (fun e S h => ih I hs he (i + 1) e S (by omega) h) (fun _ _ h => h) (fun e S h => ih I hs he (i + 1) e S (by omega) h) (fun _ _ h => h)
theorem wp_forD {xs : List D} (I : Nat → Ev → Sto → Prop) {env : Ev} {S : Sto} (h0 : I 0 env S) (hs : ∀ (i : Nat) x env S, xs[i]? = some x → I i env S → wp (asg x env S) fun env S => wpS (body env S) (I (i + 1)) N (I (i + 1)) R) (he : ∀ env S, I xs.length env S → N env S) : wpS (forLoop asg body xs env S) N B C R := by
  have := wp_forA (B := B) (C := C) xs.length I hs he 0 env S (by omega) h0
  rwa [List.drop_zero] at this
/-- over the images of a list: by the part that was walked -/
theorem wp_for {f : α → D} {l : List α} (I : List α → Ev → Sto → Prop) {env : Ev} {S : Sto} (h0 : I [] env S) (hs : ∀ (pre : List α) (x : α) (post : List α) env S, l = pre ++ x :: post → I pre env S → wp (asg (f x) env S) fun env S => wpS (body env S) (I (pre ++ [x])) N (I (pre ++ [x])) R) (he : ∀ env S, I l env S → N env S) : wpS (forLoop asg body (l.map f) env S) N B C R := by
  refine wp_forD (fun i env S => I (l.take i) env S) (by simpa using h0) ?_ ?_
  · intro i x env S hx hi
    rw [List.getElem?_map] at hx
    obtain ⟨y, hy, rfl⟩ := Option.map_eq_some_iff.mp hx
    have hl := (List.getElem?_eq_some_iff.mp hy).1
    have e : l.take (i + 1) = l.take i ++ [y] := by rw [List.take_succ, hy]; rfl
    have := hs (l.take i) y (l.drop (i + 1)) env S (by
      have h2 := List.drop_eq_getElem_cons hl
      have h3 : l[i] = y := (List.getElem?_eq_some_iff.mp hy).2
      rw [h3] at h2
      rw [← h2, List.take_append_drop]) hi
    simp only [e]
    exact this
  · intro env S h
    rw [List.length_map, List.take_length] at h
    exact he _ _ h
/-- over a range -/
theorem wp_rng {a b : Int} (I : Nat → Ev → Sto → Prop) {env : Ev} {S : Sto} (h0 : I 0 env S) (hs : ∀ (i : Nat) env S, a + i < b → I i env S → wp (asg (.int (a + i)) env S) fun env S => wpS (body env S) (I (i + 1)) N (I (i + 1)) R) (he : ∀ env S, I (b - a).toNat env S → N env S) : wpS (forLoop asg body (rangeD a b) env S) N B C R := by
  refine wp_forD I h0 ?_ ?_
  · intro i x env S hx hi
    unfold rangeD at hx
    rw [List.getElem?_map] at hx
    obtain ⟨y, hy, rfl⟩ := Option.map_eq_some_iff.mp hx
    have hl := (List.getElem?_eq_some_iff.mp hy).1
    rw [List.length_range] at hl
    rw [List.getElem?_range hl] at hy
    cases hy
    exact hs i env S (by omega) hi
  · intro env S h
    refine he _ _ ?_
    have : (rangeD a b).length = (b - a).toNat := by simp [rangeD]
    rw [this] at h
    exact h
/-- over a range, by its numbers -/
theorem wp_rngN (a b : Nat) {a' b' : Int} (ha : a' = (a : Int)) (hb : b' = (b : Int)) (hab : a ≤ b) (I : Nat → Ev → Sto → Prop) {env : Ev} {S : Sto} (h0 : I a env S) (hs : ∀ (k : Nat) env S, a ≤ k → k < b → I k env S → wp (asg (.int (k : Int)) env S) fun env S => wpS (body env S) (I (k + 1)) N (I (k + 1)) R) (he : ∀ env S, I b env S → N env S) : wpS (forLoop asg body (rangeD a' b') env S) N B C R := by
  subst ha hb
  refine wp_rng (fun i => I (a + i)) h0 ?_ ?_
  · intro i env S hi h
    have := hs (a + i) env S (by omega) (by omega) h
    rw [show ((a + i : Nat) : Int) = (a : Int) + i by omega] at this
    exact this
  · intro env S h
    rw [show a + ((b : Int) - (a : Int)).toNat = b by omega] at h
    exact he _ _ h
theorem enum_map (f : α → D) (l : List α) : enumD (l.map f) = l.zipIdx.map fun q => .tuple [.int (q.2 : Nat), f q.1] := by
  unfold enumD
  rw [List.zipIdx_map, List.map_map]
  rfl
theorem wp_enum {f : α → D} {l : List α} (I : List α → Ev → Sto → Prop) {env : Ev} {S : Sto} (h0 : I [] env S) (hs : ∀ (pre : List α) (x : α) (post : List α) env S, l = pre ++ x :: post → I pre env S → wp (asg (.tuple [.int (pre.length : Nat), f x]) env S) fun env S => wpS (body env S) (I (pre ++ [x])) N (I (pre ++ [x])) R) (he : ∀ env S, I l env S → N env S) : wpS (forLoop asg body (enumD (l.map f)) env S) N B C R := by
  refine wp_forD (fun i env S => I (l.take i) env S) (by simpa using h0) ?_ ?_
  · intro i x env S hx hi
    rw [enum_map, List.getElem?_map] at hx
    obtain ⟨y, hy, rfl⟩ := Option.map_eq_some_iff.mp hx
    rw [List.getElem?_zipIdx] at hy
    obtain ⟨z, hz, rfl⟩ := Option.map_eq_some_iff.mp hy
    have hl := (List.getElem?_eq_some_iff.mp hz).1
    have e : l.take (i + 1) = l.take i ++ [z] := by rw [List.take_succ, hz]; rfl
    have := hs (l.take i) z (l.drop (i + 1)) env S (by
      have h2 := List.drop_eq_getElem_cons hl
      have h3 : l[i] = z := (List.getElem?_eq_some_iff.mp hz).2
      rw [h3] at h2
      rw [← h2, List.take_append_drop]) hi
    have hlen : (l.take i).length = i := by rw [List.length_take]; omega
    rw [hlen] at this
    simp only [e, Nat.zero_add]
    exact this
  · intro env S h
    have : (enumD (l.map f)).length = l.length := by rw [enum_map]; simp
    rw [this, List.take_length] at h
    exact he _ _ h
/-- a while: by a number that falls -/
theorem wp_while {test : Ev → Sto → Re Bool} (I : Nat → Ev → Sto → Prop) (hs : ∀ (k : Nat) env S, I k env S → wp (test env S) fun t S => if t then wpS (body env S) (fun e S => ∃ j, j < k ∧ I j e S) N (fun e S => ∃ j, j < k ∧ I j e S) R else N env S) : ∀ (fu k : Nat) (env : Ev) (S : Sto), k < fu → I k env S → wpS (whileLoop test body fu env S) N B C R := by
  intro fu
  induction fu with
  | zero => intro k env S h _; omega
  | succ n ih =>
    intro k env S hk h
    show wpS ((test env S).bindS env fun t S => if t then (body env S).turn fun env S => whileLoop test body n env S else .nx env S) N B C R
    rw [wpS_bindS]
    refine wp_imp (hs k env S h) fun t S1 h1 => ?_
    rw [wpS_ite]
    split
    · rename_i ht
      rw [if_pos ht] at h1
      rw [wpS_turn]
      exact wpS_imp h1 (fun e S ⟨j, hj, hI⟩ => ih j e S (by omega) hI) (fun _ _ h => h) (fun e S ⟨j, hj, hI⟩ => ih j e S (by omega) hI) (fun _ _ h => h)
    · rename_i ht
      rw [if_neg ht] at h1
      exact h1
end
/-! ### comprehensions -/
theorem lc_map {S : Sto} {step : D → Sto → Re (Option D)} {f : α → D} {l : List α} {g : α → D} {p : α → Bool} (h : ∀ x ∈ l, ∀ acc : List D, step (f x) (S ++ [.lst acc]) = .ok (if p x then some (g x) else none) (S ++ [.lst acc])) (hl : l.length ≤ 90000) :
    lcRun step (l.map f) S = .ok (.d (.list ((l.filter p).map g))) S := by
  have key : ∀ (l : List α) (acc : List D), (∀ x ∈ l, ∀ acc : List D, step (f x) (S ++ [.lst acc]) = .ok (if p x then some (g x) else none) (S ++ [.lst acc])) → acc.length + l.length ≤ 90000 → lcLoop step S.length (l.map f) (S ++ [.lst acc]) = .ok (.d (.list (acc ++ (l.filter p).map g))) S := by
    intro l
    induction l with
    | nil =>
      intro acc _ _
      show lcEnd S.length (S ++ [.lst acc]) = _
      unfold lcEnd
      rw [List.getElem?_append_right (Nat.le_refl _), Nat.sub_self]
      simp
    | cons x r ih =>
      intro acc h hl
      rw [List.length_cons] at hl
      rw [List.map_cons]
      unfold lcLoop
      rw [h x List.mem_cons_self acc]
      cases hp : p x with
      | false =>
        simp only [Bool.false_eq_true, if_false]
        rw [ih acc (fun y hy => h y (List.mem_cons_of_mem _ hy)) (by omega), List.filter_cons, hp]
        rfl
      | true =>
        have hq : lcPut S.length (g x) (S ++ [.lst acc]) = some (S ++ [.lst (acc ++ [g x])]) := by
          unfold lcPut
          rw [List.getElem?_append_right (Nat.le_refl _), Nat.sub_self]
          have : inLine (acc.length + 1) = true := by unfold inLine; exact Nat.ble_eq.mpr (by omega)
          simp [this]
        simp only [if_true, hq]
        rw [ih (acc ++ [g x]) (fun y hy => h y (List.mem_cons_of_mem _ hy)) (by simp; omega), List.filter_cons, hp]
        simp
  have := key l [] h (by simpa using hl)
  show lcLoop step S.length (l.map f) (S ++ [.lst []]) = _
  rw [this, List.nil_append]
theorem lc_all {S : Sto} {step : D → Sto → Re (Option D)} {f : α → D} {l : List α} {g : α → D} (h : ∀ x ∈ l, ∀ acc : List D, step (f x) (S ++ [.lst acc]) = .ok (some (g x)) (S ++ [.lst acc])) (hl : l.length ≤ 90000) :
    lcRun step (l.map f) S = .ok (.d (.list (l.map g))) S := by
  rw [lc_map (g := g) (p := fun _ => true) (fun x hx acc => by rw [h x hx acc]; rfl) hl, List.filter_eq_self.mpr (by simp)]
/-- a comprehension whose steps may draw -/
theorem wp_lc {step : D → Sto → Re (Option D)} {n : Nat} {Q : Vl → Sto → Prop} : ∀ (xs : List D) (I : Nat → List D → Sto → Prop), (∀ (i : Nat) x acc S, xs[i]? = some x → S.length = n → I i acc S → wp (step x (S ++ [.lst acc])) fun o S1 => ∃ S2, S1 = S2 ++ [.lst acc] ∧ S2.length = n ∧ acc.length ≤ 90000 ∧ I (i + 1) (acc ++ o.toList) S2) → (∀ acc S, S.length = n → I xs.length acc S → Q (.d (.list acc)) S) →
    ∀ (S : Sto) (acc : List D), S.length = n → I 0 acc S → wp (lcLoop step n xs (S ++ [.lst acc])) Q := by
  intro xs
  induction xs with
  | nil =>
    intro I hs he S acc hn h0
    show wp (lcEnd n (S ++ [.lst acc])) Q
    unfold lcEnd
    subst hn
    rw [List.getElem?_append_right (Nat.le_refl _), Nat.sub_self]
    simp
    exact he acc S rfl h0
  | cons x r ih =>
    intro I hs he S acc hn h0
    obtain ⟨o, S1, e, S2, rfl, hn2, hl, h1⟩ := wp_ex (hs 0 x acc S rfl hn h0)
    unfold lcLoop
    rw [e]
    cases o with
    | none =>
      simp only
      simp at h1
      exact ih (fun i => I (i + 1)) (fun i y acc S hy => hs (i + 1) y acc S (by simpa using hy)) he S2 acc hn2 h1
    | some y =>
      have hq : lcPut n y (S2 ++ [.lst acc]) = some (S2 ++ [.lst (acc ++ [y])]) := by
        unfold lcPut
        subst hn2
        rw [List.getElem?_append_right (Nat.le_refl _), Nat.sub_self]
        have : inLine (acc.length + 1) = true := by unfold inLine; exact Nat.ble_eq.mpr (by omega)
        simp [this]
      simp only [hq]
      exact ih (fun i => I (i + 1)) (fun i y acc S hy => hs (i + 1) y acc S (by simpa using hy)) he S2 (acc ++ [y]) hn2 h1
end
theorem wp_lcR {step : D → Sto → Re (Option D)} {S : Sto} {Q : Vl → Sto → Prop} {xs : List D} (I : Nat → List D → Sto → Prop) (h0 : I 0 [] S) (hs : ∀ (i : Nat) x acc S', xs[i]? = some x → S'.length = S.length → I i acc S' → wp (step x (S' ++ [.lst acc])) fun o S1 => ∃ S2, S1 = S2 ++ [.lst acc] ∧ S2.length = S.length ∧ acc.length ≤ 90000 ∧ I (i + 1) (acc ++ o.toList) S2) (he : ∀ acc S', S'.length = S.length → I xs.length acc S' → Q (.d (.list acc)) S') : wp (lcRun step xs S) Q :=
  wp_lc xs I hs he S [] rfl h0
/-! ### the store -/
@[simp] theorem get_last (S : Sto) (o : O) : (S ++ [o])[S.length]? = some o := by simp
@[simp] theorem set_last (S : Sto) (o o' : O) : (S ++ [o]).set S.length o' = S ++ [o'] := by simp
@[simp] theorem take_last (S : Sto) (os : List O) : (S ++ os).take S.length = S := by simp
theorem mth_app {S : Sto} {k : Nat} {ds : List D} {x : D} (h : S[k]? = some (.lst ds)) (hl : ds.length ≤ 99999) : mthD S .append (.r k) [.d x] = .ok (.d .none) (S.set k (.lst (ds ++ [x]))) := by
  unfold mthD
  simp [Mt.mut, h, mutD, appD, inLine_of (show ds.length + 1 ≤ 100000 by omega)]
theorem recv_app {S : Sto} {k : Nat} {ds : List D} (h : S[k]? = some (.lst ds)) : recvOk S .append (.r k) = true := by
  show (asLst S (.r k)).isSome = true
  unfold asLst
  simp [h]
section
variable {S : Sto}
theorem mth_app0 {ds : List D} {x : D} (h : ds.length ≤ 99999) : mthD (S ++ [.lst ds]) .append (.r S.length) [.d x] = .ok (.d .none) (S ++ [.lst (ds ++ [x])]) := by
  unfold mthD
  simp [Mt.mut, mutD, appD, inLine_of (show ds.length + 1 ≤ 100000 by omega)]
@[simp] theorem recv_app0 {ds : List D} : recvOk (S ++ [.lst ds]) .append (.r S.length) = true := by
  show (asLst (S ++ [.lst ds]) (.r S.length)).isSome = true
  unfold asLst
  simp
end
theorem mth_ext {S : Sto} {k : Nat} {ds xs : List D} (h : S[k]? = some (.lst ds)) (hl : ds.length + xs.length ≤ 100000) : mthD S .extend (.r k) [.d (.list xs)] = .ok (.d .none) (S.set k (.lst (ds ++ xs))) := by
  unfold mthD
  simp [Mt.mut, h, mutD, extD, inLine_of hl]
theorem recv_ext {S : Sto} {k : Nat} {ds : List D} (h : S[k]? = some (.lst ds)) : recvOk S .extend (.r k) = true := by
  show (asLst S (.r k)).isSome = true
  unfold asLst
  simp [h]
end Itp

set_option Elab.async false
set_option linter.all false
set_option autoImplicit false
set_option maxRecDepth 100000
set_option maxHeartbeats 4000000
/-! Rows, pairs, trades as data. -/
namespace Itp
open PySem L2
abbrev T_ (r : List Int) : D := .tuple (r.map .int)
abbrev L_ (r : List Int) : D := .list (r.map .int)
abbrev pr (p : Int × Int) : D := .tuple [.int p.1, .int p.2]
abbrev Pp (ps : List (Int × Int)) : D := .tuple (ps.map pr)
abbrev tr (L : Int) (ps : List (Int × Int)) : D := mkIns 0 [.tuple [.int L, Pp ps]]
theorem sh_row (r : List Int) : ∀ x ∈ r.map PyData.int, Sh 0 x := fun x hx => by
  obtain ⟨i, _, rfl⟩ := List.mem_map.mp hx
  exact sh_int i 0
theorem sh_T (r : List Int) : Sh 1 (T_ r) := sh_tup (sh_row r)
theorem sh_L (r : List Int) : Sh 1 (L_ r) := sh_lst (sh_row r)
theorem sh_pr (p : Int × Int) : Sh 1 (pr p) := sh_tup fun x hx => by
  simp at hx
  rcases hx with rfl | rfl <;> exact sh_int _ 0
theorem sh_prs (ps : List (Int × Int)) : ∀ x ∈ ps.map pr, Sh 1 x := fun x hx => by
  obtain ⟨p, _, rfl⟩ := List.mem_map.mp hx
  exact sh_pr p
theorem sh_rows (rs : List (List Int)) : ∀ x ∈ rs.map T_, Sh 1 x := fun x hx => by
  obtain ⟨p, _, rfl⟩ := List.mem_map.mp hx
  exact sh_T p
theorem pl_row (r : List Int) : ∀ x ∈ r.map PyData.int, plainD x = true := fun x hx => by
  obtain ⟨i, _, rfl⟩ := List.mem_map.mp hx
  rfl
theorem pl_T (r : List Int) : plainD (T_ r) = true := by rw [plain_tuple, plains_iff]; exact pl_row r
theorem pl_L (r : List Int) : plainD (L_ r) = true := by rw [plain_list, plains_iff]; exact pl_row r
theorem pl_pr (p : Int × Int) : plainD (pr p) = true := rfl
theorem pl_prs (ps : List (Int × Int)) : ∀ x ∈ ps.map pr, plainD x = true := fun x hx => by
  obtain ⟨p, _, rfl⟩ := List.mem_map.mp hx
  rfl
theorem pl_Pp (ps : List (Int × Int)) : plainD (Pp ps) = true := by rw [plain_tuple, plains_iff]; exact pl_prs ps
theorem int_inj {a b : List Int} : a.map PyData.int = b.map PyData.int ↔ a = b := by
  constructor
  · intro h
    exact (List.map_inj_right (fun x y (e : PyData.int x = PyData.int y) => by cases e; rfl)).mp h
  · rintro rfl; rfl
theorem pr_inj : ∀ {p q : Int × Int}, pr p = pr q → p = q := fun {p q} h => by
  obtain ⟨a, b⟩ := p
  obtain ⟨c, d⟩ := q
  simp at h
  rw [h.1, h.2]
theorem T_inj {a b : List Int} : T_ a = T_ b ↔ a = b := by
  constructor
  · intro h
    injection h with h
    exact int_inj.mp h
  · rintro rfl; rfl
/-! ### comparing -/
theorem eqv_of {x y : D} {p : Prop} [Decidable p] (hx : plainD x = true) (hy : plainD y = true) (hp : x = y ↔ p) : PyData.eqv x y = decide p := by
  rw [Bool.eq_iff_iff, decide_eq_true_iff, ← hp]
  exact eqv_iff x y hx hy
section
variable {S : Sto}
@[simp] theorem cmp_eq (a b : Vl) : cmpD S .eq a b = eqVl S a b := rfl
@[simp] theorem cmp_ne (a b : Vl) : cmpD S .ne a b = (eqVl S a b).map not := rfl
@[simp] theorem cmp_in (a b : Vl) : cmpD S .isIn a b = isIn S a b := rfl
@[simp] theorem cmp_notIn (a b : Vl) : cmpD S .notIn a b = (isIn S a b).map not := rfl
@[simp] theorem cmp_lt (i j : Int) : cmpD S .lt (.d (.int i)) (.d (.int j)) = some (decide (i < j)) := rfl
@[simp] theorem cmp_gt (i j : Int) : cmpD S .gt (.d (.int i)) (.d (.int j)) = some (decide (j < i)) := rfl
@[simp] theorem cmp_le (i j : Int) : cmpD S .le (.d (.int i)) (.d (.int j)) = some (decide (i ≤ j)) := by
  show some (!decide (j < i)) = _
  by_cases h : j < i
  · simp [h, show ¬ i ≤ j by omega]
  · simp [h, show i ≤ j by omega]
@[simp] theorem cmp_ge (i j : Int) : cmpD S .ge (.d (.int i)) (.d (.int j)) = some (decide (j ≤ i)) := by
  show some (!decide (i < j)) = _
  by_cases h : i < j
  · simp [h, show ¬ j ≤ i by omega]
  · simp [h, show j ≤ i by omega]
@[simp] theorem cmp_isN (a : Vl) : cmpD S .isN a (.d .none) = some (isNone a) := rfl
@[simp] theorem cmp_notN (a : Vl) : cmpD S .notN a (.d .none) = some (!isNone a) := rfl
@[simp] theorem isNone_none : isNone (.d .none) = true := rfl
@[simp] theorem isNone_int (i : Int) : isNone (.d (.int i)) = false := rfl
@[simp] theorem isNone_tup (i : List D) : isNone (.d (.tuple i)) = false := rfl
@[simp] theorem isNone_lst (i : List D) : isNone (.d (.list i)) = false := rfl
@[simp] theorem isNone_str (i : Str) : isNone (.d (.str i)) = false := rfl
@[simp] theorem isNone_bool (i : Bool) : isNone (.d (.bool i)) = false := rfl
theorem eqVl_of {x y : D} {p : Prop} [Decidable p] {j k : Nat} (hx : Sh j x) (hy : Sh k y) (hj : j ≤ 64) (hk : k ≤ 64) (px : plainD x = true) (py : plainD y = true) (hp : x = y ↔ p) : eqVl S (.d x) (.d y) = some (decide p) := by
  rw [eqv_def hx hy hj hk, eqv_of px py hp]
@[simp] theorem eqVl_T (a b : List Int) : eqVl S (.d (.tuple (a.map .int))) (.d (.tuple (b.map .int))) = some (decide (a = b)) :=
  eqVl_of (sh_T a) (sh_T b) (by omega) (by omega) (pl_T a) (pl_T b) T_inj
theorem L_inj {a b : List Int} : L_ a = L_ b ↔ a = b := by
  constructor
  · intro h
    injection h with h
    exact int_inj.mp h
  · rintro rfl; rfl
@[simp] theorem eqVl_L (a b : List Int) : eqVl S (.d (.list (a.map .int))) (.d (.list (b.map .int))) = some (decide (a = b)) :=
  eqVl_of (sh_L a) (sh_L b) (by omega) (by omega) (pl_L a) (pl_L b) L_inj
theorem inSeq_of {α : Type} {f : α → D} (hf : ∀ x y, f x = f y → x = y) {k : Nat} (hk : k ≤ 63) (sh : ∀ x, Sh k (f x)) (pl : ∀ x, plainD (f x) = true) (x : α) (l : List α) {p : Prop} [Decidable p] (hp : x ∈ l ↔ p) : inSeq (f x) (l.map f) = some (decide p) := by
  obtain ⟨b, e, hb⟩ := inSeq_mem (sh x) (fun y hy => by obtain ⟨z, _, rfl⟩ := List.mem_map.mp hy; exact sh z) (by omega) hk (pl x) (fun y hy => by obtain ⟨z, _, rfl⟩ := List.mem_map.mp hy; exact pl z)
  rw [e]
  congr 1
  rw [Bool.eq_iff_iff, hb, decide_eq_true_iff, ← hp]
  constructor
  · intro h
    obtain ⟨z, hz, ez⟩ := List.mem_map.mp h
    rw [← hf _ _ ez]
    exact hz
  · intro h
    exact List.mem_map_of_mem h
theorem in_ints (x : Int) (l : List Int) {p : Prop} [Decidable p] (hp : x ∈ l ↔ p) : inSeq (.int x) (l.map .int) = some (decide p) := inSeq_of (f := PyData.int) (fun x y h => by cases h; rfl) (k := 0) (by omega) (fun x => sh_int x 0) (fun _ => rfl) x l hp
@[simp] theorem isIn_T (x : Int) (l : List Int) : isIn S (.d (.int x)) (.d (.tuple (l.map .int))) = some (decide (x ∈ l)) := in_ints x l Iff.rfl
@[simp] theorem isIn_L (x : Int) (l : List Int) : isIn S (.d (.int x)) (.d (.list (l.map .int))) = some (decide (x ∈ l)) := in_ints x l Iff.rfl
@[simp] theorem isIn_T2 (x a b : Int) : isIn S (.d (.int x)) (.d (.tuple [.int a, .int b])) = some (decide (x = a ∨ x = b)) := in_ints x [a, b] (by simp)
@[simp] theorem isIn_L1 (x a : Int) : isIn S (.d (.int x)) (.d (.list [.int a])) = some (decide (x = a)) := in_ints x [a] (by simp)
theorem in_prs (q : Int × Int) (ps : List (Int × Int)) : inSeq (pr q) (ps.map pr) = some (decide (q ∈ ps)) := inSeq_of (f := pr) (fun x y h => pr_inj h) (k := 1) (by omega) sh_pr pl_pr q ps Iff.rfl
@[simp] theorem isIn_prs (ps : List (Int × Int)) (a b : Int) : isIn S (.d (.tuple [.int a, .int b])) (.d (.tuple (ps.map pr))) = some (decide ((a, b) ∈ ps)) := in_prs (a, b) ps
theorem in_rows (q : List Int) (ps : List (List Int)) : inSeq (T_ q) (ps.map T_) = some (decide (q ∈ ps)) := inSeq_of (f := T_) (fun x y h => T_inj.mp h) (k := 1) (by omega) sh_T pl_T q ps Iff.rfl
@[simp] theorem isIn_rows (q : List Int) (ps : List (List Int)) : isIn S (.d (.tuple (q.map .int))) (.d (.list (ps.map T_))) = some (decide (q ∈ ps)) := in_rows q ps
/-! ### items, lengths -/
@[simp] theorem atI_map {α β : Type} (f : α → β) (l : List α) (i : Int) : atI (l.map f) i = (atI l i).map f := by
  unfold atI
  rw [List.length_map]
  cases ixN l.length i with
  | none => rfl
  | some k => exact List.getElem?_map ..
@[simp] theorem lenD_T (l : List D) : lenD S (.d (.tuple l)) = some (.int l.length) := rfl
@[simp] theorem lenD_L (l : List D) : lenD S (.d (.list l)) = some (.int l.length) := rfl
@[simp] theorem b1_len (v : Vl) : b1D S .len v = lenD S v := rfl
@[simp] theorem b1_tupL (l : List D) : b1D S .tuple (.d (.list l)) = some (.tuple l) := rfl
@[simp] theorem b1_lstT (l : List D) : b1D S .list (.d (.tuple l)) = some (.list l) := rfl
@[simp] theorem b1_lstL (l : List D) : b1D S .list (.d (.list l)) = some (.list l) := rfl
@[simp] theorem items_L (l : List D) : itemsD (.d (.list l)) = some l := rfl
@[simp] theorem items_T (l : List D) : itemsD (.d (.tuple l)) = some l := rfl
@[simp] theorem truth_L (l : List D) : truthV S (.d (.list l)) = some (!l.isEmpty) := rfl
@[simp] theorem truth_T (l : List D) : truthV S (.d (.tuple l)) = some (!l.isEmpty) := rfl
@[simp] theorem truth_I (i : Int) : truthV S (.d (.int i)) = some (i != 0) := rfl
@[simp] theorem bin_add (i j : Int) : binD S .add (.d (.int i)) (.d (.int j)) = some (.int (i + j)) := rfl
@[simp] theorem bin_sub (i j : Int) : binD S .sub (.d (.int i)) (.d (.int j)) = some (.int (i - j)) := rfl
theorem bin_catT {a b : List D} (h : a.length + b.length ≤ 100000) : binD S .add (.d (.tuple a)) (.d (.tuple b)) = some (.tuple (a ++ b)) := by
  show (if inLine (a.length + b.length) = true then some (PyData.tuple (a ++ b)) else none) = _
  rw [inLine_of h]; rfl
theorem bin_catL {a b : List D} (h : a.length + b.length ≤ 100000) : binD S .add (.d (.list a)) (.d (.list b)) = some (.list (a ++ b)) := by
  show (if inLine (a.length + b.length) = true then some (PyData.list (a ++ b)) else none) = _
  rw [inLine_of h]; rfl
@[simp] theorem allDat_nil : allDat [] = some [] := rfl
@[simp] theorem allDat_cons (x : D) (r : List Vl) : allDat (.d x :: r) = (allDat r).map (x :: ·) := rfl
@[simp] theorem b2_max (i j : Int) : b2D .max (.d (.int i)) (.d (.int j)) = some (.int (if j > i then j else i)) := rfl
@[simp] theorem b2_min (i j : Int) : b2D .min (.d (.int i)) (.d (.int j)) = some (.int (if j < i then j else i)) := rfl
@[simp] theorem revD_T (l : List D) : revD (.d (.tuple l)) = some (.tuple l.reverse) := rfl
@[simp] theorem revD_L (l : List D) : revD (.d (.list l)) = some (.list l.reverse) := rfl
@[simp] theorem inL0 : inLine 0 = true := rfl
@[simp] theorem inL1 : inLine 1 = true := rfl
@[simp] theorem inL2 : inLine 2 = true := rfl
@[simp] theorem inL3 : inLine 3 = true := rfl
@[simp] theorem inL4 : inLine 4 = true := rfl
@[simp] theorem fld_tr (L : Int) (ps : List (Int × Int)) (f : Str) : fldD S 0 0 f (.d (tr L ps)) = some (.tuple [.int L, Pp ps]) := rfl
@[simp] theorem insOf_tr (L : Int) (ps : List (Int × Int)) : insOf S 0 (.d (tr L ps)) = true := rfl
@[simp] theorem isi_tr (L : Int) (ps : List (Int × Int)) : isiD (.cls 0) (.d (tr L ps)) = some true := rfl
@[simp] theorem at2_0 (a b : D) : atI [a, b] 0 = some a := rfl
@[simp] theorem at2_1 (a b : D) : atI [a, b] 1 = some b := rfl
@[simp] theorem at3_0 (a b c : D) : atI [a, b, c] 0 = some a := rfl
@[simp] theorem at3_1 (a b c : D) : atI [a, b, c] 1 = some b := rfl
@[simp] theorem at3_2 (a b c : D) : atI [a, b, c] 2 = some c := rfl
@[simp] theorem isi_int_i (i : Int) : isiD .int (.d (.int i)) = some true := rfl
@[simp] theorem isi_bool_i (i : Int) : isiD .bool (.d (.int i)) = some false := rfl
@[simp] theorem isi_tup_t (l : List D) : isiD .tuple (.d (.tuple l)) = some true := rfl
@[simp] theorem isi_str_s (x : Str) : isiD .str (.d (.str x)) = some true := rfl
@[simp] theorem isi_lst_l (l : List D) : isiD .list (.d (.list l)) = some true := rfl
theorem rngI_ok {i j : Int} (h : -1000000 ≤ i ∧ i ≤ 1000000 ∧ -1000000 ≤ j ∧ j ≤ 1000000) : rngI (.d (.int i)) (.d (.int j)) S = .ok (rangeD i j) S := by
  show (if rngOk i j = true then Re.ok (rangeD i j) S else .er) = _
  rw [if_pos (rngOk_iff.mpr h)]
theorem allI_map : ∀ l : List Int, allInts (l.map .int) = true
  | [] => rfl
  | _ :: r => allI_map r
theorem intsOf_map : ∀ l : List Int, intsOf (l.map .int) = l
  | [] => rfl
  | x :: r => by show x :: intsOf (r.map .int) = _; rw [intsOf_map r]
@[simp] theorem mth_countT (l : List Int) (k : Int) : mthD S .countT (.d (.tuple (l.map .int))) [.d (.int k)] = .ok (.d (.int (l.count k))) S := by
  show ofO S (if allInts (l.map .int) = true then some (PyData.int ((intsOf (l.map .int)).count k)) else none) = _
  rw [allI_map, intsOf_map]; rfl
@[simp] theorem recv_countT (l : List D) : recvOk S .countT (.d (.tuple l)) = true := rfl
@[simp] theorem cut_to {α : Type} (l : List α) (k : Nat) : cutL l none (some (k : Int)) = l.take k := by
  unfold cutL
  rw [HT.sIx_none, HT.sIx_nat, List.drop_zero, Nat.sub_zero, List.take_eq_take_iff]
  omega
@[simp] theorem cut_from {α : Type} (l : List α) (k : Nat) : cutL l (some (k : Int)) none = l.drop k := by
  unfold cutL
  rw [HT.sIx_none, HT.sIx_nat]
  by_cases h : k ≤ l.length
  · rw [Nat.min_eq_left h, List.take_of_length_le (by simp)]
  · rw [Nat.min_eq_right (by omega), Nat.sub_self, List.take_zero, List.drop_eq_nil_of_le (by omega)]
@[simp] theorem slc_T (l : List D) (lo hi : Option Int) : slcD S lo hi (.d (.tuple l)) = some (.tuple (cutL l lo hi)) := rfl
@[simp] theorem slc_L (l : List D) (lo hi : Option Int) : slcD S lo hi (.d (.list l)) = some (.list (cutL l lo hi)) := rfl
theorem cut_map {α β : Type} (f : α → β) (l : List α) (lo hi : Option Int) : cutL (l.map f) lo hi = (cutL l lo hi).map f := by
  unfold cutL
  simp
end
end Itp

set_option Elab.async false
set_option linter.all false
set_option autoImplicit false
set_option maxRecDepth 100000
set_option maxHeartbeats 4000000
/-! Rows, pairs, changes, rows that are alike: plain. -/
namespace Law
open PySem L2 Itp
def may (ps : List (Int × Int)) (a b : Int) : Bool := decide ((min a b, max a b) ∈ ps)
theorem may_comm (ps : List (Int × Int)) (a b : Int) : may ps a b = may ps b a := by
  unfold may
  rw [Int.min_comm, Int.max_comm]
/-- a row of letters below L, of at most m of them -/
structure Row (L : Int) (m : Nat) (r : List Int) : Prop where
  len : r.length ≤ m
  low : ∀ x ∈ r, 0 ≤ x
  high : ∀ x ∈ r, x < L
/-- the pairs of a trade: below L, ascending -/
structure Prs (L : Int) (ps : List (Int × Int)) : Prop where
  one : ∀ p ∈ ps, 0 ≤ p.1 ∧ p.1 < p.2 ∧ p.2 < L
  asc : ps.Pairwise fun p q => p.1 < q.1 ∨ p.1 = q.1 ∧ p.2 < q.2
  few : ps.length ≤ 1000
theorem prs_get {L : Int} {ps pre post : List (Int × Int)} {p : Int × Int} (h : Prs L ps) (e : ps = pre ++ p :: post) (hp : 0 < pre.length) : ∃ q, atI ps ((pre.length : Int) - 1) = some q ∧ (q.1 < p.1 ∨ q.1 = p.1 ∧ q.2 < p.2) := by
  have hlt : pre.length - 1 < pre.length := by omega
  refine ⟨pre[pre.length - 1], ?_, ?_⟩
  · have : ((pre.length : Int) - 1) = ((pre.length - 1 : Nat) : Int) := by omega
    rw [this]
    apply atI_nat
    rw [e, List.getElem?_append_left hlt, List.getElem?_eq_getElem hlt]
  · have a := h.asc
    rw [e, List.pairwise_append] at a
    exact a.2.2 _ (List.getElem_mem _) p (List.mem_cons_self)
def only2 (a b : Int) (r : List Int) : List Int := r.filter fun x => decide (x = a) || decide (x = b)
/-- what bars, by the projections -/
def same (L : Nat) (ps : List (Int × Int)) (one other : List Int) : Prop :=
  (∀ a : Nat, a < L → one.count (a : Int) = other.count (a : Int)) ∧ ∀ a b : Nat, a < b → b < L → may ps a b = false → only2 a b one = only2 a b other
theorem count_only {one other : List Int} {a b : Int} (hab : a ≠ b) (h1 : one.count a = other.count a) (h2 : one.count b = other.count b) : (only2 a b one).length = (only2 a b other).length := by
  have key : ∀ r : List Int, (only2 a b r).length = r.count a + r.count b := by
    intro r
    induction r with
    | nil => rfl
    | cons x r ih =>
      simp only [only2] at ih ⊢
      rw [List.filter_cons, List.count_cons, List.count_cons]
      by_cases ha : x = a
      · subst ha; simp [ih, hab]; omega
      · by_cases hb : x = b
        · subst hb; simp [ih, Ne.symm hab]; omega
        · simp [ha, hb, ih]
  rw [key, key, h1, h2]
theorem may_of {L : Int} {ps : List (Int × Int)} (h : Prs L ps) (a b : Int) : may ps a b = decide ((a, b) ∈ ps ∨ (b, a) ∈ ps) := by
  unfold may
  rw [Bool.eq_iff_iff, decide_eq_true_iff, decide_eq_true_iff]
  constructor
  · intro hm
    rcases Int.le_total a b with c | c
    · rw [Int.min_eq_left c, Int.max_eq_right c] at hm; exact .inl hm
    · rw [Int.min_eq_right c, Int.max_eq_left c] at hm; exact .inr hm
  · rintro (hm | hm)
    · have := h.one _ hm
      rw [Int.min_eq_left (by simp at this; omega), Int.max_eq_right (by simp at this; omega)]; exact hm
    · have := h.one _ hm
      rw [Int.min_eq_right (by simp at this; omega), Int.max_eq_left (by simp at this; omega)]; exact hm
/-! ### changes -/
/-- a change of two neighbours that may -/
inductive Chg (ps : List (Int × Int)) : List Int → List Int → Prop
  | mk (u v : List Int) (a b : Int) : may ps a b = true → Chg ps (u ++ a :: b :: v) (u ++ b :: a :: v)
/-- changes lead from one row to the other -/
inductive Alk (ps : List (Int × Int)) : List Int → List Int → Prop
  | refl (r : List Int) : Alk ps r r
  | step {r s t : List Int} : Alk ps r s → Chg ps s t → Alk ps r t
theorem Chg.symm {ps : List (Int × Int)} {r s : List Int} (h : Chg ps r s) : Chg ps s r := by
  obtain ⟨u, v, a, b, m⟩ := h
  exact ⟨u, v, b, a, by rw [may_comm]; exact m⟩
theorem Alk.trans {ps : List (Int × Int)} {r s t : List Int} (h : Alk ps r s) (k : Alk ps s t) : Alk ps r t := by
  induction k with
  | refl => exact h
  | step _ c ih => exact .step ih c
theorem Alk.one {ps : List (Int × Int)} {r s : List Int} (h : Chg ps r s) : Alk ps r s := .step (.refl _) h
theorem Alk.symm {ps : List (Int × Int)} {r s : List Int} (h : Alk ps r s) : Alk ps s r := by
  induction h with
  | refl => exact .refl _
  | step _ c ih => exact (Alk.one c.symm).trans ih
theorem Chg.perm {ps : List (Int × Int)} {r s : List Int} (h : Chg ps r s) : r.Perm s := by
  obtain ⟨u, v, a, b, m⟩ := h
  exact List.Perm.append_left u (List.Perm.swap b a v)
theorem Alk.perm {ps : List (Int × Int)} {r s : List Int} (h : Alk ps r s) : r.Perm s := by
  induction h with
  | refl => exact .refl _
  | step _ c ih => exact ih.trans c.perm
theorem Row.perm {L : Int} {m : Nat} {r s : List Int} (h : Row L m r) (p : r.Perm s) : Row L m s :=
  ⟨by rw [← p.length_eq]; exact h.len, fun x hx => h.low x (p.mem_iff.mpr hx), fun x hx => h.high x (p.mem_iff.mpr hx)⟩
theorem split2 {α : Type} {r : List α} {k : Nat} (hk : k + 1 < r.length) : r = r.take k ++ r[k] :: r[k + 1] :: r.drop (k + 2) := by
  rw [← List.drop_eq_getElem_cons hk, ← List.drop_eq_getElem_cons (show k < r.length by omega), List.take_append_drop]
theorem chg_at {ps : List (Int × Int)} {r : List Int} {k : Nat} (hk : k + 1 < r.length) (h : may ps r[k] r[k + 1] = true) : Chg ps r (r.take k ++ r[k + 1] :: r[k] :: r.drop (k + 2)) := by
  have := Chg.mk (ps := ps) (r.take k) (r.drop (k + 2)) r[k] r[k + 1] h
  rw [← split2 hk] at this
  exact this
/-! ### alike just if the projections agree -/
theorem may_self {L : Int} {ps : List (Int × Int)} (h : Prs L ps) (a : Int) : may ps a a = false := by
  rw [may_of h]
  simp
  intro hm
  have := (h.one _ hm).2.1
  simp at this
section
variable {ps : List (Int × Int)} (irr : ∀ a, may ps a a = false)
include irr
theorem chg_only {r s : List Int} (h : Chg ps r s) {a b : Int} (hab : may ps a b = false) : only2 a b r = only2 a b s := by
  obtain ⟨u, v, c, d, m⟩ := h
  unfold only2
  rw [List.filter_append, List.filter_append, List.filter_cons, List.filter_cons, List.filter_cons, List.filter_cons]
  by_cases hc : c = a ∨ c = b
  · by_cases hd : d = a ∨ d = b
    · exfalso
      rcases hc with rfl | rfl <;> rcases hd with rfl | rfl
      · rw [irr] at m; cases m
      · rw [hab] at m; cases m
      · rw [may_comm, hab] at m; cases m
      · rw [irr] at m; cases m
    · have : (decide (d = a) || decide (d = b)) = false := by simpa using hd
      simp [this]
  · have : (decide (c = a) || decide (c = b)) = false := by simpa using hc
    simp [this]
theorem alk_only {r s : List Int} (h : Alk ps r s) {a b : Int} (hab : may ps a b = false) : only2 a b r = only2 a b s := by
  induction h with
  | refl => rfl
  | step _ c ih => rw [ih, chg_only irr c hab]
omit irr in
theorem alk_cons {r s : List Int} (x : Int) (h : Alk ps r s) : Alk ps (x :: r) (x :: s) := by
  induction h with
  | refl => exact .refl _
  | step _ c ih =>
    obtain ⟨u, v, a, b, m⟩ := c
    exact .step ih ⟨x :: u, v, a, b, m⟩
omit irr in
theorem alk_front {x : Int} {v : List Int} : ∀ {u : List Int}, (∀ y ∈ u, may ps x y = true) → Alk ps (u ++ x :: v) (x :: (u ++ v))
  | [], _ => .refl _
  | y :: u, h => by
    have ih := alk_front (v := v) fun z hz => h z (List.mem_cons_of_mem _ hz)
    refine (alk_cons y ih).trans (Alk.one ?_)
    exact ⟨[], u ++ v, y, x, by rw [may_comm]; exact h y List.mem_cons_self⟩
omit irr in
theorem only_cons (a b x : Int) (r : List Int) : only2 a b (x :: r) = if x = a ∨ x = b then x :: only2 a b r else only2 a b r := by
  unfold only2
  rw [List.filter_cons]
  by_cases h : x = a ∨ x = b
  · rw [if_pos h, if_pos (by simpa using h)]
  · rw [if_neg h, if_neg (by simpa using h)]
omit irr in
theorem split_first {x : Int} : ∀ {s : List Int}, x ∈ s → ∃ u v, s = u ++ x :: v ∧ x ∉ u
  | [], h => by cases h
  | y :: s, h => by
    by_cases e : y = x
    · subst e; exact ⟨[], s, rfl, by simp⟩
    · obtain ⟨u, v, rfl, hn⟩ := split_first ((List.mem_cons.mp h).resolve_left (Ne.symm e))
      exact ⟨y :: u, v, rfl, by simp [hn, Ne.symm e]⟩
theorem alk_of : ∀ {r s : List Int}, (∀ a b, may ps a b = false → only2 a b r = only2 a b s) → Alk ps r s
  | [], s, h => by
    cases s with
    | nil => exact .refl _
    | cons y s =>
      have := h y y (irr y)
      rw [only_cons, if_pos (.inl rfl)] at this
      simp [only2] at this
  | x :: r, s, h => by
    have hx : x ∈ s := by
      have h1 := h x x (irr x)
      rw [only_cons, if_pos (.inl rfl)] at h1
      have : x ∈ only2 x x s := by rw [← h1]; exact List.mem_cons_self
      exact (List.mem_filter.mp this).1
    obtain ⟨u, v, rfl, hn⟩ := split_first hx
    have hu : ∀ y ∈ u, may ps x y = true := by
      intro y hy
      cases hm : may ps x y with
      | true => rfl
      | false =>
        exfalso
        have h1 := h x y hm
        rw [only_cons, if_pos (.inl rfl)] at h1
        have e2 : only2 x y (u ++ x :: v) = only2 x y u ++ only2 x y (x :: v) := by unfold only2; rw [List.filter_append]
        rw [e2] at h1
        have hne : only2 x y u ≠ [] := by
          intro z
          have : y ∈ only2 x y u := List.mem_filter.mpr ⟨hy, by simp⟩
          rw [z] at this; cases this
        obtain ⟨z, w, hz⟩ := List.exists_cons_of_ne_nil hne
        rw [hz] at h1
        have hzx : z = x := by injection h1 with a _; exact a.symm
        have : z ∈ only2 x y u := by rw [hz]; exact List.mem_cons_self
        rw [hzx] at this
        exact hn (List.mem_filter.mp this).1
    have fr := alk_front (v := v) hu
    refine (alk_cons x (alk_of fun a b hab => ?_)).trans fr.symm
    have h1 := (h a b hab).trans (alk_only irr fr hab)
    rw [only_cons, only_cons] at h1
    split at h1
    · injection h1
    · exact h1
  termination_by r => r.length
theorem alk_iff {r s : List Int} : Alk ps r s ↔ ∀ a b, may ps a b = false → only2 a b r = only2 a b s :=
  ⟨fun h a b hab => alk_only irr h hab, alk_of irr⟩
end
/-- for rows of the letters below L: just what bar_of asks -/
theorem only_same (a : Int) (r : List Int) : only2 a a r = List.replicate (r.count a) a := by
  unfold only2
  have : (fun x => decide (x = a) || decide (x = a)) = fun x => x == a := by funext x; simp [BEq.beq]
  rw [this, List.filter_beq]
theorem only_out {a b : Int} {r : List Int} (h : ∀ x ∈ r, x ≠ b) : only2 a b r = List.replicate (r.count a) a := by
  rw [← only_same]
  unfold only2
  apply List.filter_congr
  intro x hx
  simp [h x hx]
theorem only_comm (a b : Int) (r : List Int) : only2 a b r = only2 b a r := by
  unfold only2
  apply List.filter_congr
  intro x _
  rw [Bool.or_comm]
theorem same_alk {L : Nat} {m k : Nat} {ps : List (Int × Int)} (irr : ∀ a, may ps a a = false) {r s : List Int} (hr : Row L m r) (hs : Row L k s) : same L ps r s ↔ Alk ps r s := by
  rw [alk_iff irr]
  constructor
  · rintro ⟨hc, hp⟩ a b hab
    have cnt : ∀ a : Int, r.count a = s.count a := by
      intro a
      by_cases ha : 0 ≤ a ∧ a < L
      · obtain ⟨n, rfl⟩ := Int.eq_ofNat_of_zero_le ha.1
        exact hc n (by omega)
      · rw [List.count_eq_zero.mpr fun hm => ha ⟨hr.low _ hm, hr.high _ hm⟩, List.count_eq_zero.mpr fun hm => ha ⟨hs.low _ hm, hs.high _ hm⟩]
    by_cases ha : 0 ≤ a ∧ a < L
    · by_cases hb : 0 ≤ b ∧ b < L
      · obtain ⟨x, rfl⟩ := Int.eq_ofNat_of_zero_le ha.1
        obtain ⟨y, rfl⟩ := Int.eq_ofNat_of_zero_le hb.1
        rcases Nat.lt_trichotomy x y with h | h | h
        · exact hp x y h (by omega) hab
        · subst h; rw [only_same, only_same, cnt]
        · rw [only_comm, only_comm (r := s)]
          exact hp y x h (by omega) (by rw [may_comm]; exact hab)
      · rw [only_out fun x hx e => hb (by rw [← e]; exact ⟨hr.low x hx, hr.high x hx⟩), only_out fun x hx e => hb (by rw [← e]; exact ⟨hs.low x hx, hs.high x hx⟩), cnt]
    · rw [only_comm, only_comm (r := s), only_out fun x hx e => ha (by rw [← e]; exact ⟨hr.low x hx, hr.high x hx⟩), only_out fun x hx e => ha (by rw [← e]; exact ⟨hs.low x hx, hs.high x hx⟩), cnt]
  · intro h
    refine ⟨fun a _ => ?_, fun a b _ _ hab => h a b hab⟩
    have := congrArg List.length (h a a (irr a))
    rw [only_same, only_same, List.length_replicate, List.length_replicate] at this
    exact this
end Law

set_option Elab.async false
set_option linter.all false
set_option autoImplicit false
set_option maxRecDepth 100000
set_option maxHeartbeats 4000000
/-! Plain theory of alike rows: what can come first, cancelling, two cuts of one row (Levi), the greatest common beginning. -/
namespace Law
section
variable {ps : List (Int × Int)} (irr : ∀ a, may ps a a = false)
include irr
theorem only_app (a b : Int) (r s : List Int) : only2 a b (r ++ s) = only2 a b r ++ only2 a b s := List.filter_append ..
theorem alk_app {r r' s s' : List Int} (h : Alk ps r r') (k : Alk ps s s') : Alk ps (r ++ s) (r' ++ s') := by
  refine alk_of irr fun a b hab => ?_
  rw [only_app irr, only_app irr, alk_only irr h hab, alk_only irr k hab]
theorem alk_cancel {p r s : List Int} (h : Alk ps (p ++ r) (p ++ s)) : Alk ps r s := by
  refine alk_of irr fun a b hab => ?_
  have := alk_only irr h hab
  rw [only_app irr, only_app irr] at this
  exact List.append_cancel_left this
theorem alk_cancel1 {x : Int} {r s : List Int} (h : Alk ps (x :: r) (x :: s)) : Alk ps r s := alk_cancel irr (p := [x]) h
/-- what comes first stands behind letters that may change places with it -/
theorem fst_split {x : Int} {r s : List Int} (h : Alk ps r (x :: s)) : ∃ u v, r = u ++ x :: v ∧ x ∉ u ∧ (∀ z ∈ u, may ps x z = true) ∧ Alk ps (u ++ v) s := by
  have hx : x ∈ r := h.perm.symm.subset List.mem_cons_self
  obtain ⟨u, v, rfl, hu⟩ := split_first hx
  have hc : ∀ z ∈ u, may ps x z = true := by
    intro z hz
    cases hm : may ps x z with
    | true => rfl
    | false =>
      exfalso
      have := alk_only irr h hm
      rw [only_app irr, only_cons, only_cons, if_pos (.inl rfl), if_pos (.inl rfl)] at this
      have hz' : z ∈ only2 x z u := by
        unfold only2
        rw [List.mem_filter]
        simp [hz]
      obtain ⟨y, t, e⟩ := List.exists_cons_of_ne_nil (List.ne_nil_of_mem hz')
      rw [e, List.cons_append] at this
      have hyx : y = x := (List.cons.inj this).1
      have hy : y ∈ only2 x z u := by rw [e]; exact List.mem_cons_self
      unfold only2 at hy
      exact hu (hyx ▸ (List.mem_filter.mp hy).1)
  exact ⟨u, v, rfl, hu, hc, alk_cancel1 irr ((alk_front hc).symm.trans h)⟩
theorem fst_app {x : Int} {q b s : List Int} (h : Alk ps (q ++ b) (x :: s)) : (∃ q', Alk ps q (x :: q') ∧ Alk ps (q' ++ b) s) ∨ (x ∉ q ∧ (∀ y ∈ q, may ps x y = true) ∧ ∃ b', Alk ps b (x :: b') ∧ Alk ps (q ++ b') s) := by
  obtain ⟨u, v, e, hu, hc, hs⟩ := fst_split irr h
  rcases List.append_eq_append_iff.mp e with ⟨as, rfl, rfl⟩ | ⟨bs, rfl, eb⟩
  · refine .inr ⟨fun hh => hu (List.mem_append_left _ hh), fun y hy => hc y (List.mem_append_left _ hy), as ++ v, alk_front fun y hy => hc y (List.mem_append_right _ hy), ?_⟩
    rw [← List.append_assoc]; exact hs
  · cases bs with
    | nil =>
      rw [List.nil_append] at eb
      subst eb
      rw [List.append_nil]
      exact .inr ⟨hu, hc, v, .refl _, hs⟩
    | cons y bs =>
      rw [List.cons_append] at eb
      obtain ⟨rfl, rfl⟩ := List.cons.inj eb
      refine .inl ⟨u ++ bs, alk_front hc, ?_⟩
      rw [List.append_assoc]; exact hs
/-- no letter can come first in both -/
def NoFst (ps : List (Int × Int)) (q r : List Int) : Prop := ∀ x s t, Alk ps q (x :: s) → Alk ps r (x :: t) → False
/-- two cuts of one row -/
theorem levi : ∀ (r q b d : List Int), NoFst ps q r → Alk ps (q ++ b) (r ++ d) → (∀ x ∈ q, ∀ y ∈ r, may ps x y = true) ∧ ∃ s, Alk ps b (r ++ s) ∧ Alk ps d (q ++ s)
  | [], q, b, d, _, h => ⟨fun _ _ _ hy => (List.not_mem_nil hy).elim, b, .refl _, h.symm⟩
  | x :: r, q, b, d, hn, h => by
    rw [List.cons_append] at h
    rcases fst_app irr h with ⟨q', h1, _⟩ | ⟨h1, h2, b', h3, h4⟩
    · exact (hn x q' r h1 (.refl _)).elim
    · have hn' : NoFst ps q r := by
        intro y s t hy hr
        have hyq : y ∈ q := hy.perm.symm.subset List.mem_cons_self
        have hxy := h2 y hyq
        refine hn y s (x :: t) hy ((alk_cons x hr).trans (Alk.one ?_))
        exact Chg.mk [] t x y hxy
      obtain ⟨k1, s, k2, k3⟩ := levi r q b' d hn' h4
      refine ⟨?_, s, h3.trans (alk_cons x k2), k3⟩
      intro z hz y hy
      rcases List.mem_cons.mp hy with rfl | hy
      · rw [may_comm]; exact h2 z hz
      · exact k1 z hz y hy
/-- the greatest common beginning: one only -/
theorem common_one : ∀ (p1 p2 q1 q2 r1 r2 : List Int), NoFst ps q1 r1 → NoFst ps q2 r2 → Alk ps (p1 ++ q1) (p2 ++ q2) → Alk ps (p1 ++ r1) (p2 ++ r2) → Alk ps p1 p2
  | [], [], _, _, _, _, _, _, _, _ => .refl _
  | [], x :: p2, q1, q2, r1, r2, h1, _, h3, h4 => (h1 x _ _ h3 h4).elim
  | x :: p1, p2, q1, q2, r1, r2, h1, h2, h3, h4 => by
    rw [List.cons_append] at h3 h4
    rcases fst_app irr h3.symm with ⟨p', k1, k2⟩ | ⟨k1, k2, q', k3, k4⟩
    · rcases fst_app irr h4.symm with ⟨p'', m1, m2⟩ | ⟨m1, _⟩
      · have e : Alk ps p' p'' := alk_cancel1 irr (k1.symm.trans m1)
        exact (alk_cons x (common_one p1 p' q1 q2 r1 r2 h1 h2 k2.symm ((alk_app irr e (.refl _)).trans m2).symm)).trans k1.symm
      · exact (m1 (k1.perm.symm.subset List.mem_cons_self)).elim
    · rcases fst_app irr h4.symm with ⟨p'', m1, m2⟩ | ⟨m1, m2, r', m3, m4⟩
      · exact (k1 (m1.perm.symm.subset List.mem_cons_self)).elim
      · exact (h2 x q' r' k3 m3).elim
end
end Law

set_option Elab.async false
set_option linter.all false
set_option autoImplicit false
set_option maxRecDepth 100000
set_option maxHeartbeats 4000000
/-! Rows in order, sorted. -/
namespace Itp
open PySem L2
abbrev ltR (a b : List Int) : Bool := HT.lexLt a b
theorem dataLt_T : ∀ (a b : List Int), PySem.W.dataLt (T_ a) (T_ b) = ltR a b := by
  have h : ∀ x y : Int, PyProof.Rows.itemLt (.inl x) (.inl y) = decide (x < y) := fun _ _ => rfl
  have key : ∀ (a b : List Int), PyProof.Rows.lexLt PyProof.Rows.itemOrd (PySem.W.keyToksAll (a.map .int)) (PySem.W.keyToksAll (b.map .int)) = ltR a b := by
    intro a
    induction a with
    | nil =>
      intro b
      cases b with
      | nil => rfl
      | cons y b => simp [PySem.W.keyToksAll, PyProof.Rows.lexLt, h, HT.lexLt]
    | cons x a ih =>
      intro b
      cases b with
      | nil => simp [PySem.W.keyToksAll, PyProof.Rows.lexLt, h, HT.lexLt]
      | cons y b =>
        have := ih b
        simp only [List.map_cons, PySem.W.keyToksAll, PySem.W.keyToks, List.cons_append, List.nil_append, PyProof.Rows.lexLt, h, ltR, HT.lexLt] at this ⊢
        rw [this]
        by_cases h1 : x < y
        · simp [h1, show ¬ x = y by omega]
        · by_cases h2 : y < x
          · simp [h1, h2, show ¬ x = y by omega]
          · simp [h1, h2, show x = y by omega]
  intro a b
  unfold PySem.W.dataLt
  rw [PySem.W.keyToks, PySem.W.keyToks]
  exact key a b
theorem ltR_irr : ∀ a : List Int, ltR a a = false
  | [] => rfl
  | x :: a => by
    have := ltR_irr a
    simp only [ltR, HT.lexLt] at this ⊢
    simp [this]
theorem ltR_tri : ∀ a b : List Int, ltR a b = false → ltR b a = false → a = b
  | [], [], _, _ => rfl
  | [], _ :: _, h, _ => by cases h
  | _ :: _, [], _, h => by cases h
  | x :: a, y :: b, h, k => by
    simp only [ltR, HT.lexLt] at h k
    by_cases e : x = y
    · subst e
      simp at h k
      rw [ltR_tri a b h k]
    · rw [if_neg e] at h
      rw [if_neg (Ne.symm e)] at k
      simp at h k
      omega
theorem ltR_trans : ∀ a b c : List Int, ltR a b = true → ltR b c = true → ltR a c = true
  | [], [], _, h, _ => by cases h
  | [], _ :: _, [], _, k => by cases k
  | [], _ :: _, _ :: _, _, _ => rfl
  | _ :: _, [], _, h, _ => by cases h
  | _ :: _, _ :: _, [], _, k => by cases k
  | x :: a, y :: b, z :: c, h, k => by
    simp only [ltR, HT.lexLt] at h k ⊢
    by_cases e1 : x = y
    · subst e1
      by_cases e2 : x = z
      · subst e2
        simp at h k ⊢
        exact ltR_trans a b c h k
      · rw [if_neg e2] at k ⊢
        exact k
    · rw [if_neg e1] at h
      by_cases e2 : y = z
      · subst e2
        rw [if_neg e1]
        exact h
      · rw [if_neg e2] at k
        simp at h k
        rw [if_neg (by omega)]
        simp
        omega
theorem ltR_asym {a b : List Int} (h : ltR a b = true) : ltR b a = false := by
  cases k : ltR b a with
  | false => rfl
  | true =>
    have := ltR_trans a b a h k
    rw [ltR_irr] at this
    cases this
def insR (x : List Int) : List (List Int) → List (List Int)
  | [] => [x]
  | y :: r => if ltR x y then x :: y :: r else y :: insR x r
def sortR (l : List (List Int)) : List (List Int) := l.foldl (fun acc x => insR x acc) []
theorem insR_comm1 {a b : List Int} (h : ltR a b = true) : ∀ l, insR a (insR b l) = insR b (insR a l)
  | [] => by
    simp [insR, h, ltR_asym h]
  | y :: r => by
    by_cases hb : ltR b y = true
    · have ha := ltR_trans _ _ _ h hb
      simp [insR, hb, ha, h, ltR_asym h]
    · by_cases ha : ltR a y = true
      · simp [insR, hb, ha, ltR_asym h]
      · simp [insR, hb, ha, insR_comm1 h r]
theorem insR_comm (a b : List Int) (l : List (List Int)) : insR a (insR b l) = insR b (insR a l) := by
  cases h : ltR a b with
  | true => exact insR_comm1 h l
  | false =>
    cases k : ltR b a with
    | true => exact (insR_comm1 k l).symm
    | false => rw [ltR_tri a b h k]
theorem sortR_perm {l m : List (List Int)} (h : l.Perm m) : sortR l = sortR m := by
  unfold sortR
  exact h.foldl_eq' (fun x _ y _ z => insR_comm y x z) []
theorem insR_perm (x : List Int) : ∀ l, (insR x l).Perm (x :: l)
  | [] => .refl _
  | y :: r => by
    unfold insR
    split
    · exact .refl _
    · exact ((insR_perm x r).cons y).trans (.swap x y r)
theorem sortR_perm_self (l : List (List Int)) : (sortR l).Perm l := by
  have key : ∀ (l acc : List (List Int)), (l.foldl (fun acc x => insR x acc) acc).Perm (l ++ acc) := by
    intro l
    induction l with
    | nil => intro acc; exact .refl _
    | cons x l ih =>
      intro acc
      refine (ih (insR x acc)).trans ?_
      exact ((insR_perm x acc).append_left l).trans List.perm_middle
  have := key l []
  rwa [List.append_nil] at this
theorem insD_T (x : List Int) : ∀ l : List (List Int), insD (T_ x) (l.map T_) = (insR x l).map T_
  | [] => rfl
  | y :: r => by
    show (if PySem.W.dataLt (T_ x) (T_ y) = true then T_ x :: T_ y :: r.map T_ else T_ y :: insD (T_ x) (r.map T_)) = _
    rw [dataLt_T, insD_T x r]
    show _ = (if ltR x y = true then x :: y :: r else y :: insR x r).map T_
    split <;> rfl
theorem sortD_T (l : List (List Int)) : sortD (l.map T_) = (sortR l).map T_ := by
  have key : ∀ (l acc : List (List Int)), (l.map T_).foldl (fun acc x => insD x acc) (acc.map T_) = (l.foldl (fun acc x => insR x acc) acc).map T_ := by
    intro l
    induction l with
    | nil => intro acc; rfl
    | cons x l ih =>
      intro acc
      rw [List.map_cons, List.foldl_cons, List.foldl_cons, insD_T, ih]
  exact key l []
theorem alike_T : ∀ a b : List Int, PySem.W.alike (T_ a) (T_ b) = true := by
  have key : ∀ a b : List Int, PySem.W.alikeAll (a.map .int) (b.map .int) = true := by
    intro a
    induction a with
    | nil => intro b; cases b <;> simp [PySem.W.alikeAll]
    | cons x a ih =>
      intro b
      cases b with
      | nil => simp [PySem.W.alikeAll]
      | cons y b => simp [PySem.W.alikeAll, PySem.W.alike]; exact ih b
  intro a b
  rw [PySem.W.alike]
  exact key a b
theorem homog_T (l : List (List Int)) : homog (l.map T_) = true := by
  unfold homog
  rw [List.all_eq_true]
  intro x hx
  obtain ⟨p, _, rfl⟩ := List.mem_map.mp hx
  rw [(sh_T p).shaped (by omega), pl_T, Bool.true_and, Bool.true_and, List.all_eq_true]
  intro y hy
  obtain ⟨q, _, rfl⟩ := List.mem_map.mp hy
  exact alike_T p q
theorem sorted_T {S : Sto} (l : List (List Int)) : b1D S .sorted (.d (.list (l.map T_))) = some (.list ((sortR l).map T_)) := by
  show (if homog (l.map T_) = true then some (PyData.list (sortD (l.map T_))) else none) = _
  rw [homog_T, sortD_T]
  rfl
theorem eqVl_rows {S : Sto} (a b : List (List Int)) : eqVl S (.d (.list (a.map T_))) (.d (.list (b.map T_))) = some (decide (a = b)) := by
  have pl : ∀ l : List (List Int), plainD (.list (l.map T_)) = true := by
    intro l
    rw [plain_list, plains_iff]
    intro x hx
    obtain ⟨q, _, rfl⟩ := List.mem_map.mp hx
    exact pl_T q
  refine eqVl_of (sh_lst (sh_rows a)) (sh_lst (sh_rows b)) (by omega) (by omega) (pl a) (pl b) ?_
  constructor
  · intro h
    injection h with h
    exact (List.map_inj_right (fun x y e => T_inj.mp e)).mp h
  · rintro rfl; rfl
end Itp

set_option Elab.async false
set_option linter.all false
set_option autoImplicit false
set_option maxRecDepth 100000
set_option maxHeartbeats 4000000
/-! What the defs of trades.py answer. -/
namespace Law
open PySem L2 Itp
section
variable {n : Nat} {S : Sto}
theorem sp_is_integer (hn : 1 ≤ n) {v : Int} : runFn G 1000 n F_is_integer [.d (.int v)] S = .ok (.d (.bool true)) S := by
  rw [en_is_integer hn]
  simp [ir_is_integer]
theorem sp_is_from (hn : 2 ≤ n) {v lo hi : Int} : runFn G 1000 n F_is_from [.d (.int v), .d (.int lo), .d (.int hi)] S = .ok (.d (.bool (decide (lo ≤ v ∧ v ≤ hi)))) S := by
  rw [en_is_from (by omega)]
  simp [ir_is_from, sp_is_integer (show 1 ≤ n - 1 by omega)]
  by_cases h1 : lo ≤ v <;> simp [h1]
theorem sp_may (hn : 1 ≤ n) {L a b : Int} {ps : List (Int × Int)} : runFn G 1000 n F_may [.d (tr L ps), .d (.int a), .d (.int b)] S = .ok (.d (.bool (may ps a b))) S := by
  rw [en_may hn]
  have e1 : (if b < a then b else a) = min a b := by omega
  have e2 : (if b > a then b else a) = max a b := by omega
  simp [ir_may, e1, e2, may]
theorem sp_is_row (hn : 3 ≤ n) {L : Int} {r : List Int} (h : Row L 20 r) : runFn G 1000 n F_is_row [.d (T_ r), .d (.int L)] S = .ok (.d (.bool true)) S := by
  rw [en_is_row (by omega)]
  apply wp_eq
  have hl := h.len
  simp [ir_is_row]
  refine ⟨by omega, ?_⟩
  refine wp_for (I := fun pre env S' => S = S' ∧ ∃ v, env = [some (.d (T_ r)), some (.d (.int L)), v]) ⟨rfl, _, rfl⟩ ?_ ?_
  · rintro pre x post env S' e ⟨rfl, v, rfl⟩
    have hx : x ∈ r := by rw [e]; simp
    have h1 := h.low x hx
    have h2 := h.high x hx
    simp [sp_is_from (show 2 ≤ n - 1 by omega), h1, show x ≤ L - 1 by omega]
  · rintro env S' ⟨rfl, v, rfl⟩
    simp
theorem sp_is_pair (hn : 3 ≤ n) {a b L : Int} (h0 : 0 ≤ a) (h1 : a < b) (h2 : b < L) : runFn G 1000 n F_is_pair [.d (.tuple [.int a, .int b]), .d (.int L)] S = .ok (.d (.bool true)) S := by
  rw [en_is_pair (by omega)]
  simp [ir_is_pair, sp_is_from (show 2 ≤ n - 1 by omega), h0, show a ≤ L - 1 by omega, show a + 1 ≤ b by omega, show b ≤ L - 1 by omega]
theorem sp_Trade_init (hn : 4 ≤ n) {L : Int} {ps : List (Int × Int)} (h1 : 1 ≤ L) (h6 : L ≤ 6) (h : Prs L ps) : runFn G 1000 n F_Trade___init__ [.r S.length, .d (.int L), .d (Pp ps)] (S ++ [.ins 0 []]) = .ok (.d .none) (S ++ [.ins 0 [("held", .tuple [.int L, Pp ps])]]) := by
  rw [en_Trade___init__ (by omega)]
  apply wp_eq
  simp [ir_Trade___init__, sp_is_from (show 2 ≤ n - 1 by omega), h1, h6]
  refine wp_enum (I := fun pre env S' => S ++ [.ins 0 []] = S' ∧ ∃ v w, env = [some (.r S.length), some (.d (.int L)), some (.d (Pp ps)), v, w]) ⟨rfl, _, _, rfl⟩ ?_ ?_
  · rintro pre p post env S' e ⟨rfl, v, w, rfl⟩
    obtain ⟨a0, a1, a2⟩ := h.one p (by rw [e]; simp)
    simp [Nat.beq, sp_is_pair (show 3 ≤ n - 1 by omega) a0 a1 a2]
    by_cases hp : 0 < pre.length
    · obtain ⟨q, hq, hlt⟩ := prs_get h e hp
      have hlx : HT.lexLt [q.1, q.2] [p.1, p.2] = true := by
        rcases hlt with c | ⟨c1, c2⟩
        · simp [HT.lexLt, show q.1 ≠ p.1 by omega, c]
        · simp [HT.lexLt, c1, show q.2 ≠ p.2 by omega, c2]
      simp [hp, hq, cmpD, ltVl, allInts, intsOf, hlx]
    · simp [hp]
  · rintro env S' ⟨rfl, v, w, rfl⟩
    simp [setFld, putFD, Nat.ble]
theorem sp_Trade_mk (hn : 4 ≤ n) {L : Int} {ps : List (Int × Int)} (h1 : 1 ≤ L) (h6 : L ≤ 6) (h : Prs L ps) : mkRun (runFn G 1000 n) 0 F_Trade___init__ (some ["held"]) [.d (.int L), .d (Pp ps)] S = .ok (.d (tr L ps)) S := by
  unfold mkRun
  rw [sp_Trade_init hn h1 h6 h]
  simp [made]
theorem sp_Trade_letters (hn : 1 ≤ n) {L : Int} {ps : List (Int × Int)} : runFn G 1000 n F_Trade_letters [.d (tr L ps)] S = .ok (.d (.int L)) S := by
  rw [en_Trade_letters hn]
  simp [ir_Trade_letters]
theorem sp_Trade_pairs (hn : 1 ≤ n) {L : Int} {ps : List (Int × Int)} : runFn G 1000 n F_Trade_pairs [.d (tr L ps)] S = .ok (.d (Pp ps)) S := by
  rw [en_Trade_pairs hn]
  simp [ir_Trade_pairs]
end
end Law

set_option Elab.async false
set_option linter.all false
set_option autoImplicit false
set_option maxRecDepth 100000
set_option maxHeartbeats 4000000
/-! The checks of rows. -/
namespace Law
open PySem L2 Itp
section
variable {n : Nat} {S : Sto}
theorem sp_check_trade (hn : 1 ≤ n) {L : Int} {ps : List (Int × Int)} : runFn G 1000 n F_check_trade [.d (tr L ps)] S = .ok (.d .none) S := by
  rw [en_check_trade hn]
  simp [ir_check_trade]
theorem sp_check_row (hn : 4 ≤ n) {L : Int} {ps : List (Int × Int)} {r : List Int} (h : Row L 20 r) : runFn G 1000 n F_check_row [.d (tr L ps), .d (T_ r)] S = .ok (.d .none) S := by
  rw [en_check_row (by omega)]
  simp [ir_check_row, sp_check_trade (show 1 ≤ n - 1 by omega), sp_is_row (show 3 ≤ n - 1 by omega) h]
end
end Law

set_option Elab.async false
set_option linter.all false
set_option autoImplicit false
set_option maxRecDepth 100000
set_option maxHeartbeats 4000000
/-! The checks of rows. -/
namespace Law
open PySem L2 Itp
section
variable {n : Nat} {S : Sto}
theorem sp_check_rows (hn : 5 ≤ n) {L : Int} {ps : List (Int × Int)} {r s : List Int} (h : Row L 20 r) (h' : Row L 20 s) : runFn G 1000 n F_check_rows [.d (tr L ps), .d (T_ r), .d (T_ s)] S = .ok (.d .none) S := by
  rw [en_check_rows (by omega)]
  simp [ir_check_rows, sp_check_row (show 4 ≤ n - 1 by omega) h, sp_check_row (show 4 ≤ n - 1 by omega) h']
end
end Law

set_option Elab.async false
set_option linter.all false
set_option autoImplicit false
set_option maxRecDepth 100000
set_option maxHeartbeats 4000000
/-! What first_places, without, least_of of rows.py answer. -/
namespace Law
open PySem L2 Itp
/-- the places of the letters that can come first -/
def isFirst (ps : List (Int × Int)) (r : List Int) (k : Nat) : Bool := (r.take k).all fun y => may ps y (r.getD k 0)
def firsts (ps : List (Int × Int)) (r : List Int) : List Nat := (List.range r.length).filter (isFirst ps r)
abbrev Ns (l : List Nat) : D := .list (l.map fun k => .int (k : Nat))
section
variable {n : Nat} {S : Sto}
theorem sp_first_places (hn : 2 ≤ n) {L : Int} {ps : List (Int × Int)} {r : List Int} (hr : r.length ≤ 1000) : runFn G 1000 n F_first_places [.d (tr L ps), .d (T_ r)] S = .ok (.d (Ns (firsts ps r))) S := by
  rw [en_first_places (by omega)]
  apply wp_eq
  simp [ir_first_places]
  obtain ⟨I, hI⟩ := mkI fun (pre : List Int) env S' => S' = S ++ [.lst (((List.range pre.length).filter (isFirst ps r)).map fun k => .int (k : Nat))] ∧ ∃ v3 v4 v5, env = [some (.d (tr L ps)), some (.d (T_ r)), some (.r S.length), v3, v4, v5]
  refine wp_enum I ((hI _ _ _).mpr ⟨rfl, _, _, _, rfl⟩) ?_ ?_
  · intro pre x post env S' e h
    obtain ⟨rfl, v3, v4, v5, rfl⟩ := (hI _ _ _).mp h
    have htake : r.take pre.length = pre := by rw [e]; simp
    have hget : r.getD pre.length 0 = x := by rw [e]; simp
    have hlen : pre.length < r.length := by rw [e]; simp
    simp [Nat.beq]
    rw [← List.map_take, htake, lc_map (g := PyData.int) (p := fun y => !may ps y x)]
    · have hll := List.length_filter_le (isFirst ps r) (List.range pre.length)
      rw [List.length_range] at hll
      simp
      by_cases hq : ∃ z, z ∈ pre ∧ may ps z x = false
      · have hf : isFirst ps r pre.length = false := by
          unfold isFirst
          rw [htake, hget, Bool.eq_false_iff]
          intro hall
          obtain ⟨z, hz, hm⟩ := hq
          rw [List.all_eq_true.mp hall z hz] at hm
          cases hm
        rw [if_pos hq]
        refine (hI _ _ _).mpr ⟨?_, _, _, _, rfl⟩
        rw [List.length_append, List.length_singleton, List.range_succ, List.filter_append, List.filter_cons, hf]
        simp
      · have hf : isFirst ps r pre.length = true := by
          unfold isFirst
          rw [htake, hget, List.all_eq_true]
          intro z hz
          cases hm : may ps z x with
          | true => rfl
          | false => exact absurd ⟨z, hz, hm⟩ hq
        rw [if_neg hq]
        rw [mth_app0 (by rw [List.length_map]; omega)]
        refine (hI _ _ _).mpr ⟨?_, _, _, _, rfl⟩
        rw [List.length_append, List.length_singleton, List.range_succ, List.filter_append, List.filter_cons, hf]
        simp
    · intro y hy acc
      simp [lcStep_eq, wipeE, sp_may (show 1 ≤ n - 1 by omega)]
      cases may ps y x <;> rfl
    · omega
  · intro env S' h
    obtain ⟨rfl, v3, v4, v5, rfl⟩ := (hI _ _ _).mp h
    simp [freeze, firsts]
def withoutP (r : List Int) (ks : List Int) : List Int := (r.zipIdx.filter fun q => !decide ((q.2 : Int) ∈ ks)).map (·.1)
theorem sp_without (hn : 1 ≤ n) {r ks : List Int} (hr : r.length ≤ 1000) : runFn G 1000 n F_without [.d (T_ r), .d (L_ ks)] S = .ok (.d (T_ (withoutP r ks))) S := by
  rw [en_without (by omega)]
  simp [ir_without, enum_map]
  rw [lc_map (g := fun q => PyData.int q.1) (p := fun q => !decide ((q.2 : Int) ∈ ks))]
  · simp [withoutP]
  · intro q hq acc
    simp [lcStep_eq, wipeE, Nat.beq]
    by_cases h : (q.2 : Int) ∈ ks <;> simp [h]
  · simp; omega
theorem without_one : ∀ (r : List Int) (k j : Nat), ((r.zipIdx j).filter fun q => !decide ((q.2 : Int) ∈ [((j + k : Nat) : Int)])).map (·.1) = r.eraseIdx k
  | [], k, j => by simp
  | x :: r, 0, j => by
    rw [List.zipIdx_cons, List.filter_cons, if_neg (by simp), List.filter_eq_self.mpr]
    · simp
    · intro q hq
      have := List.le_snd_of_mem_zipIdx hq
      simp
      omega
  | x :: r, k + 1, j => by
    have ih := without_one r k (j + 1)
    rw [List.zipIdx_cons, List.filter_cons]
    have e : j + 1 + k = j + (k + 1) := by omega
    rw [e] at ih
    have hne : ¬ ((j : Nat) : Int) = ((j + (k + 1) : Nat) : Int) := by omega
    simp only [List.mem_singleton, hne, decide_false, Bool.not_false, if_true, List.map_cons, List.eraseIdx_cons_succ]
    simp only [List.mem_singleton] at ih
    rw [ih]
theorem withoutP_one (r : List Int) (k : Nat) : withoutP r [(k : Int)] = r.eraseIdx k := by
  have := without_one r k 0
  rw [Nat.zero_add] at this
  exact this
/-! ### the least of pairs -/
def ltP (q m : Int × Int) : Bool := decide (q.1 < m.1 ∨ q.1 = m.1 ∧ q.2 < m.2)
def minP (m : Int × Int) : List (Int × Int) → Int × Int
  | [] => m
  | q :: r => minP (if ltP q m then q else m) r
theorem lt_pr (q m : Int × Int) : PySem.W.dataLt (pr q) (pr m) = ltP q m := by
  obtain ⟨a, b⟩ := q
  obtain ⟨c, d⟩ := m
  unfold PySem.W.dataLt ltP
  have h : ∀ x y : Int, PyProof.Rows.itemLt (.inl x) (.inl y) = decide (x < y) := fun _ _ => rfl
  simp [PySem.W.keyToks, PySem.W.keyToksAll, PyProof.Rows.lexLt, h]
  by_cases h1 : a < c
  · simp [h1]
  · by_cases h2 : c < a
    · simp [h1, h2, show ¬ a = c by omega]
    · have h3 : a = c := by omega
      simp [h1, h2, h3]
theorem minD_pr : ∀ (l : List (Int × Int)) (m : Int × Int), Itp.minD (pr m) (l.map pr) = pr (minP m l)
  | [], m => rfl
  | q :: r, m => by
    show Itp.minD (if PySem.W.dataLt (pr q) (pr m) = true then pr q else pr m) (r.map pr) = pr (minP (if ltP q m = true then q else m) r)
    rw [lt_pr]
    split
    · exact minD_pr r q
    · exact minD_pr r m
theorem minP_mem : ∀ (l : List (Int × Int)) (m : Int × Int), minP m l ∈ m :: l
  | [], m => List.mem_cons_self
  | q :: r, m => by
    have ih := minP_mem r (if ltP q m then q else m)
    show minP (if ltP q m then q else m) r ∈ m :: q :: r
    rcases List.mem_cons.mp ih with h | h
    · rw [h]
      split
      · exact List.mem_cons_of_mem _ List.mem_cons_self
      · exact List.mem_cons_self
    · exact List.mem_cons_of_mem _ (List.mem_cons_of_mem _ h)
theorem firsts_zero {ps : List (Int × Int)} {x : Int} {r : List Int} : ∃ l, firsts ps (x :: r) = 0 :: l := by
  unfold firsts
  rw [List.length_cons, List.range_succ_eq_map, List.filter_cons]
  have : isFirst ps (x :: r) 0 = true := by unfold isFirst; simp
  rw [if_pos this]
  exact ⟨_, rfl⟩
theorem homog_prs (l : List (Int × Int)) : homog (l.map pr) = true := by
  unfold homog
  rw [List.all_eq_true]
  intro x hx
  obtain ⟨p, _, rfl⟩ := List.mem_map.mp hx
  rw [(sh_pr p).shaped (by omega), pl_pr, Bool.true_and, Bool.true_and, List.all_eq_true]
  intro y hy
  obtain ⟨q, _, rfl⟩ := List.mem_map.mp hy
  rfl
theorem min_prs (m : Int × Int) (l : List (Int × Int)) : b1D S .min (.d (.list (pr m :: l.map pr))) = some (pr (minP m l)) := by
  show (if homog (pr m :: l.map pr) = true then some (Itp.minD (pr m) (l.map pr)) else none) = _
  rw [show pr m :: l.map pr = (m :: l).map pr from rfl, homog_prs, minD_pr]
  rfl
/-! ### the least row -/
def cand (ps : List (Int × Int)) (r : List Int) : List (Int × Int) := (firsts ps r).map fun k => (r.getD k 0, (k : Int))
def nextP (ps : List (Int × Int)) (r : List Int) : Int × Int := match cand ps r with
  | [] => (0, 0)
  | m :: l => minP m l
def leastN (ps : List (Int × Int)) : Nat → List Int → List Int
  | 0, _ => []
  | k + 1, r => (nextP ps r).1 :: leastN ps k (r.eraseIdx (nextP ps r).2.toNat)
def leastR (ps : List (Int × Int)) (r : List Int) : List Int := leastN ps r.length r
theorem nextP_ok {ps : List (Int × Int)} {r : List Int} (h : r ≠ []) : ∃ k : Nat, k < r.length ∧ isFirst ps r k = true ∧ nextP ps r = (r.getD k 0, (k : Int)) := by
  obtain ⟨x, r', rfl⟩ := List.exists_cons_of_ne_nil h
  obtain ⟨l, hl⟩ := firsts_zero (ps := ps) (x := x) (r := r')
  have hm : nextP ps (x :: r') ∈ cand ps (x :: r') := by
    unfold nextP
    split
    · rename_i hc
      unfold cand at hc
      rw [hl] at hc
      cases hc
    · rename_i m l' hc
      rw [hc]
      exact minP_mem l' m
  obtain ⟨k, hk, e⟩ := List.mem_map.mp hm
  obtain ⟨hk1, hk2⟩ := List.mem_filter.mp hk
  exact ⟨k, List.mem_range.mp hk1, hk2, e.symm⟩
theorem sp_least_of (hn : 3 ≤ n) {L : Int} {ps : List (Int × Int)} {r : List Int} (hr : r.length ≤ 900) : runFn G 1000 n F_least_of [.d (tr L ps), .d (T_ r)] S = .ok (.d (T_ (leastR ps r))) S := by
  rw [en_least_of (by omega)]
  apply wp_eq
  simp [ir_least_of]
  obtain ⟨I, hI⟩ := mkI fun (k : Nat) env S' => ∃ left acc : List Int, left.length = k ∧ k ≤ r.length ∧ acc.length + k = r.length ∧ leastR ps r = acc ++ leastN ps k left ∧ S' = S ++ [.lst (acc.map .int)] ∧ ∃ v4 v5, env = [some (.d (tr L ps)), some (.d (T_ r)), some (.r S.length), some (.d (T_ left)), v4, v5]
  refine wp_while I ?_ 1000 r.length _ _ (by omega) ((hI _ _ _).mpr ⟨r, [], rfl, Nat.le_refl _, by simp, rfl, rfl, _, _, rfl⟩)
  intro k env S' h
  obtain ⟨left, acc, hl, hk, ha, hL, rfl, v4, v5, rfl⟩ := (hI _ _ _).mp h
  by_cases he : left = []
  · subst he
    simp at hl
    subst hl
    simp [freeze, hL, leastN]
  · have hpos : 0 < left.length := List.length_pos_iff.mpr he
    obtain ⟨p, hp1, hp2, hp3⟩ := nextP_ok (ps := ps) he
    obtain ⟨k', rfl⟩ : ∃ k', k = k' + 1 := ⟨k - 1, by omega⟩
    simp [he, sp_first_places (show 2 ≤ n - 1 by omega) (show left.length ≤ 1000 by omega)]
    rw [lc_all (g := fun q : Nat => pr (left.getD q 0, (q : Int)))]
    · have hc : (firsts ps left).map (fun q : Nat => pr (left.getD q 0, (q : Int))) = (cand ps left).map pr := by unfold cand; rw [List.map_map]; rfl
      rw [hc]
      obtain ⟨m, l, hml⟩ : ∃ m l, cand ps left = m :: l := by
        obtain ⟨x, r', rfl⟩ := List.exists_cons_of_ne_nil he
        obtain ⟨l, hl⟩ := firsts_zero (ps := ps) (x := x) (r := r')
        unfold cand
        rw [hl]
        exact ⟨_, _, rfl⟩
      have hnx : minP m l = nextP ps left := by unfold nextP; rw [hml]
      rw [hml, List.map_cons]
      simp only [wp_ok]
      rw [min_prs, hnx, hp3]
      simp [Nat.beq]
      rw [mth_app0 (by rw [List.length_map]; omega)]
      simp only [wp_ok]
      have hw := sp_without (n := n - 1) (S := S ++ [.lst (acc.map .int ++ [.int (left[p]?.getD 0)])]) (by omega) (r := left) (ks := [(p : Int)]) (by omega)
      refine wp_of hw ?_
      refine ⟨k', by omega, (hI _ _ _).mpr ⟨left.eraseIdx p, acc ++ [left.getD p 0], ?_, by omega, by simp; omega, ?_, ?_, some (.d (.int (left[p]?.getD 0))), some (.d (.int p)), ?_⟩⟩
      · rw [List.length_eraseIdx_of_lt hp1]; omega
      · rw [hL]
        show acc ++ ((nextP ps left).1 :: leastN ps k' (left.eraseIdx (nextP ps left).2.toNat)) = _
        rw [hp3]
        simp
      · simp
      · rw [withoutP_one]
    · intro q hq acc'
      have hq1 := List.mem_range.mp (List.mem_filter.mp hq).1
      have hat : atI left (q : Int) = some (left.getD q 0) := by
        apply atI_nat
        simp [hq1]
      simp [lcStep_eq, wipeE, hat]
    · have := List.length_filter_le (isFirst ps left) (List.range left.length)
      unfold firsts
      rw [List.length_range] at this
      omega
theorem erase_split {r : List Int} {p : Nat} (h : p < r.length) : r = r.take p ++ r.getD p 0 :: r.drop (p + 1) ∧ r.eraseIdx p = r.take p ++ r.drop (p + 1) := by
  refine ⟨?_, List.eraseIdx_eq_take_drop_succ r p⟩
  have : r.getD p 0 = r[p] := by simp [h]
  rw [this, ← List.drop_eq_getElem_cons h, List.take_append_drop]
theorem alk_first {ps : List (Int × Int)} {r : List Int} {p : Nat} (h : p < r.length) (hf : isFirst ps r p = true) : Alk ps r (r.getD p 0 :: r.eraseIdx p) := by
  obtain ⟨e1, e2⟩ := erase_split h
  rw [e2]
  have := alk_front (ps := ps) (x := r.getD p 0) (v := r.drop (p + 1)) (u := r.take p) fun y hy => by
    rw [may_comm]
    exact List.all_eq_true.mp hf y hy
  rw [← e1] at this
  exact this
theorem alk_leastN {ps : List (Int × Int)} : ∀ (k : Nat) (r : List Int), r.length = k → Alk ps r (leastN ps k r)
  | 0, r, h => by
    rw [List.length_eq_zero_iff.mp h]
    exact .refl _
  | k + 1, r, h => by
    obtain ⟨p, hp1, hp2, hp3⟩ := nextP_ok (ps := ps) (r := r) (by intro z; rw [z] at h; cases h)
    show Alk ps r ((nextP ps r).1 :: leastN ps k (r.eraseIdx (nextP ps r).2.toNat))
    rw [hp3]
    refine (alk_first hp1 hp2).trans (alk_cons _ ?_)
    show Alk ps (r.eraseIdx ((p : Int)).toNat) _
    rw [Int.toNat_natCast]
    exact alk_leastN k _ (by rw [List.length_eraseIdx_of_lt hp1]; omega)
theorem alk_least (ps : List (Int × Int)) (r : List Int) : Alk ps r (leastR ps r) := alk_leastN _ r rfl
/-! ### the checks -/
end
end Law

set_option Elab.async false
set_option linter.all false
set_option autoImplicit false
set_option maxRecDepth 100000
set_option maxHeartbeats 4000000
/-! The draws of the laws, and what they build of them. -/
namespace Law
open PySem L2 Itp
section
variable {n : Nat} {S : Sto}
def isSrc (o : O) : Prop := ∃ st cs ix, o = .src st cs ix
theorem draw_ok {b st : Int} {cs : List Int} {ix : Int} (hb : 0 < b) : 0 ≤ (draw b st cs ix).1 ∧ (draw b st cs ix).1 < b ∧ isSrc (draw b st cs ix).2 := by
  unfold Itp.draw
  simp only
  split
  · exact ⟨Int.emod_nonneg _ (by omega), Int.emod_lt_of_pos _ hb, _, _, _, rfl⟩
  · exact ⟨Int.emod_nonneg _ (by omega), Int.emod_lt_of_pos _ hb, _, _, _, rfl⟩
theorem sp_mix (hn : 1 ≤ n) {ns : List Int} (h : ns.length ≤ 1000) {k : Int} {Q : Vl → Sto → Prop} (q : ∀ o, isSrc o → Q (.r 0) [o]) : wp (runFn G 1000 n F__law_mix [.s ns, .d (.int k)] []) Q := by
  rw [en__law_mix hn]
  show wp (if Nat.ble ns.length 1000 then .ok (.r 0) [.src (mixSt k ns) ns 0] else .er) Q
  rw [if_pos (Nat.ble_eq.mpr h)]
  exact q _ ⟨_, _, _, rfl⟩
theorem sp_next (hn : 1 ≤ n) {o : O} (ho : isSrc o) {b : Int} (h0 : 0 < b) (h1 : b < 1073741824) {Q : Vl → Sto → Prop} (q : ∀ (v : Int) o', isSrc o' → 0 ≤ v → v < b → Q (.d (.int v)) (o' :: S)) : wp (runFn G 1000 n F__law_next [.r 0, .d (.int b)] (o :: S)) Q := by
  rw [en__law_next hn]
  obtain ⟨st, cs, ix, rfl⟩ := ho
  show wp (if divOk b then .ok (.d (.int (draw b st cs ix).1)) ((draw b st cs ix).2 :: S) else .er) Q
  rw [if_pos (divOk_iff.mpr ⟨h0, by omega⟩)]
  obtain ⟨a1, a2, a3⟩ := draw_ok (st := st) (cs := cs) (ix := ix) h0
  exact q _ _ a3 a1 a2
@[simp] theorem get_l1 (o x : O) (S : Sto) : (o :: (S ++ [x]))[S.length + 1]? = some x := by simp
@[simp] theorem set_l1 (o x y : O) (S : Sto) : (o :: (S ++ [x])).set (S.length + 1) y = o :: (S ++ [y]) := by simp
theorem mth_app1 {o : O} {ds : List D} {x : D} (h : ds.length ≤ 99999) : mthD (o :: (S ++ [.lst ds])) .append (.r (S.length + 1)) [.d x] = .ok (.d .none) (o :: (S ++ [.lst (ds ++ [x])])) := by
  unfold mthD
  simp [Mt.mut, mutD, appD, inLine_of (show ds.length + 1 ≤ 100000 by omega)]
@[simp] theorem recv_app1 {o : O} {ds : List D} : recvOk (o :: (S ++ [.lst ds])) .append (.r (S.length + 1)) = true := by
  show (asLst (o :: (S ++ [.lst ds])) (.r (S.length + 1))).isSome = true
  unfold asLst
  simp
/-- ahead of the pair (a, b) -/
structure PrsTo (L a b : Nat) (ps : List (Int × Int)) : Prop where
  ok : Prs L ps
  to : ∀ p ∈ ps, p.1 < a ∨ p.1 = a ∧ p.2 < b
theorem PrsTo.add {L a b : Nat} {ps : List (Int × Int)} (h : PrsTo L a b ps) (hl : ps.length < 1000) (ha : a < b) (hb : b < L) : PrsTo L a (b + 1) (ps ++ [((a : Int), (b : Int))]) := by
  refine ⟨⟨?_, ?_, by simp; omega⟩, ?_⟩
  · intro p hp
    rcases List.mem_append.mp hp with h1 | h1
    · exact h.ok.one p h1
    · simp at h1; subst h1; exact ⟨by simp, by simp; omega, by simp; omega⟩
  · rw [List.pairwise_append]
    refine ⟨h.ok.asc, by simp, ?_⟩
    intro p hp q hq
    simp at hq; subst hq
    exact h.to p hp
  · intro p hp
    rcases List.mem_append.mp hp with h1 | h1
    · rcases h.to p h1 with h2 | ⟨h2, h3⟩
      · exact .inl h2
      · exact .inr ⟨h2, by omega⟩
    · simp at h1; subst h1; exact .inr ⟨rfl, by simp; omega⟩
theorem PrsTo.skip {L a b : Nat} {ps : List (Int × Int)} (h : PrsTo L a b ps) : PrsTo L a (b + 1) ps :=
  ⟨h.ok, fun p hp => (h.to p hp).imp id fun ⟨x, y⟩ => ⟨x, by omega⟩⟩
theorem PrsTo.turn {L a b : Nat} {ps : List (Int × Int)} (h : PrsTo L a b ps) : PrsTo L (a + 1) (a + 2) ps :=
  ⟨h.ok, fun p hp => (h.to p hp).elim (fun x => .inl (by omega)) fun ⟨x, y⟩ => .inl (by omega)⟩
theorem sp_pairs (hn : 2 ≤ n) {o : O} (ho : isSrc o) {L : Nat} (hL : L ≤ 6) {Q : Vl → Sto → Prop} (q : ∀ ps o', isSrc o' → Prs L ps → Q (.d (Pp ps)) (o' :: S)) : wp (runFn G 1000 n F__law_pairs [.r 0, .d (.int L)] (o :: S)) Q := by
  rw [en__law_pairs (by omega)]
  simp [ir__law_pairs]
  refine sp_next (by omega) ho (by omega) (by omega) fun kind o1 ho1 _ _ => ?_
  simp [setAll]
  rw [rngI_ok (by omega)]
  simp only [wp_ok]
  obtain ⟨I, hI⟩ := mkI fun (a : Nat) env S' => ∃ o ps v4 v5, isSrc o ∧ PrsTo L a (a + 1) ps ∧ ps.length ≤ 6 * a ∧ S' = o :: (S ++ [.lst (ps.map pr)]) ∧ env = [some (.r 0), some (.d (.int L)), some (.d (.int kind)), some (.r (S.length + 1)), v4, v5]
  refine wp_rngN 0 L rfl rfl (by omega) I ((hI _ _ _).mpr ⟨o1, [], _, _, ho1, ⟨⟨by simp, by simp, by simp⟩, by simp⟩, by simp, by simp, rfl⟩) ?_ ?_
  · intro a env S' _ ha hi
    obtain ⟨o, ps, v4, v5, ho, hp, hl, rfl, rfl⟩ := (hI _ _ _).mp hi
    simp
    rw [rngI_ok (by omega)]
    simp only [wp_ok]
    obtain ⟨J, hJ⟩ := mkI fun (b : Nat) env S' => ∃ o ps v5, isSrc o ∧ PrsTo L a b ps ∧ ps.length ≤ 6 * a + (b - (a + 1)) ∧ S' = o :: (S ++ [.lst (ps.map pr)]) ∧ env = [some (.r 0), some (.d (.int L)), some (.d (.int kind)), some (.r (S.length + 1)), some (.d (.int a)), v5]
    refine wp_rngN (a + 1) L (by omega) rfl (by omega) J ((hJ _ _ _).mpr ⟨o, ps, _, ho, hp, by omega, rfl, rfl⟩) ?_ ?_
    · intro b env S' hb0 hb hj
      obtain ⟨o, ps, v5, ho, hp, hl, rfl, rfl⟩ := (hJ _ _ _).mp hj
      have hadd := hp.add (by omega) (by omega) hb
      have add : ∀ o, isSrc o → J (b + 1) [some (.r 0), some (.d (.int L)), some (.d (.int kind)), some (.r (S.length + 1)), some (.d (.int a)), some (.d (.int b))] (o :: (S ++ [.lst (ps.map pr ++ [PyData.tuple [.int a, .int b]])])) := fun o ho =>
        (hJ _ _ _).mpr ⟨o, ps ++ [((a : Int), (b : Int))], _, ho, hadd, by simp; omega, by simp, rfl⟩
      have skip : ∀ o, isSrc o → J (b + 1) [some (.r 0), some (.d (.int L)), some (.d (.int kind)), some (.r (S.length + 1)), some (.d (.int a)), some (.d (.int b))] (o :: (S ++ [.lst (ps.map pr)])) := fun o ho =>
        (hJ _ _ _).mpr ⟨o, ps, _, ho, hp.skip, by omega, rfl, rfl⟩
      simp
      by_cases hk : kind = 0
      · simp [hk] at add ⊢
        rw [mth_app1 (by simp; omega)]
        exact add o ho
      · simp [hk]
        by_cases hk4 : kind < 4
        · simp [hk4]
          refine sp_next (by omega) ho (by omega) (by omega) fun z o2 ho2 _ _ => ?_
          by_cases hz : z = 0
          · simp [hz]
            rw [mth_app1 (by simp; omega)]
            exact add o2 ho2
          · simp [hz]
            exact skip o2 ho2
        · simp [hk4]
          exact skip o ho
    · intro env S' hj
      obtain ⟨o, ps, v5, ho, hp, hl, rfl, rfl⟩ := (hJ _ _ _).mp hj
      exact (hI _ _ _).mpr ⟨o, ps, _, _, ho, hp.turn, by omega, rfl, rfl⟩
  · intro env S' hi
    obtain ⟨o, ps, v4, v5, ho, hp, hl, rfl, rfl⟩ := (hI _ _ _).mp hi
    simp [freeze]
    exact q ps o ho hp.ok
theorem sp_row (hn : 2 ≤ n) {o : O} (ho : isSrc o) {L m : Nat} (h0 : 0 < L) (hL : L ≤ 6) (hm : m ≤ 1000) {Q : Vl → Sto → Prop} (q : ∀ r o', isSrc o' → Row L m r → Q (.d (T_ r)) (o' :: S)) : wp (runFn G 1000 n F__law_row [.r 0, .d (.int L), .d (.int m)] (o :: S)) Q := by
  rw [en__law_row (by omega)]
  simp [ir__law_row]
  refine sp_next (by omega) ho (by omega) (by omega) fun len o1 ho1 l0 l1 => ?_
  rw [rngI_ok (by omega)]
  simp only [wp_ok]
  refine wp_lcR (fun i acc S' => ∃ r o', isSrc o' ∧ Row L i r ∧ acc = r.map .int ∧ S' = o' :: S) ⟨[], o1, ho1, ⟨by simp, by simp, by simp⟩, rfl, rfl⟩ ?_ ?_
  · rintro i x acc S' hx hl ⟨r, o', ho', hr, rfl, rfl⟩
    have hi : (i : Int) < len := by
      have := (List.getElem?_eq_some_iff.mp hx).1
      simp [rangeD] at this
      omega
    simp [lcStep_eq, wipeE]
    refine sp_next (by omega) ho' (by omega) (by omega) fun v o2 ho2 v0 v1 => ?_
    have hrl := hr.len
    simp only [isD_d]
    refine ⟨o2 :: S, by simp, by simp, by omega, r ++ [v], o2, ho2, ⟨by simp; omega, ?_, ?_⟩, by simp, rfl⟩
    · intro x hx; rcases List.mem_append.mp hx with h | h
      · exact hr.low x h
      · simp at h; omega
    · intro x hx; rcases List.mem_append.mp hx with h | h
      · exact hr.high x h
      · simp at h; omega
  · rintro acc S' hl ⟨r, o', ho', hr, rfl, rfl⟩
    simp
    refine q r o' ho' ⟨?_, hr.low, hr.high⟩
    have := hr.len
    simp [rangeD] at this
    omega
theorem sp_law_may (hn : 1 ≤ n) {L : Int} {ps : List (Int × Int)} (h : Prs L ps) {a b : Int} : runFn G 1000 n F__law_may [.d (Pp ps), .d (.int a), .d (.int b)] S = .ok (.d (.bool (may ps a b))) S := by
  rw [en__law_may hn, may_of h]
  simp [ir__law_may]
  by_cases h1 : (a, b) ∈ ps <;> simp [h1]
theorem sp_shaken (hn : 2 ≤ n) {o : O} (ho : isSrc o) {L : Int} {ps : List (Int × Int)} (hp : Prs L ps) {r : List Int} (hr : r.length ≤ 1000) {t : Nat} (ht : t ≤ 1000) {Q : Vl → Sto → Prop} (q : ∀ r' o', isSrc o' → Alk ps r r' → Q (.d (T_ r')) (o' :: S)) : wp (runFn G 1000 n F__law_shaken [.r 0, .d (Pp ps), .d (T_ r), .d (.int t)] (o :: S)) Q := by
  rw [en__law_shaken (by omega)]
  simp [ir__law_shaken]
  rw [rngI_ok (by omega)]
  simp only [wp_ok]
  obtain ⟨I, hI⟩ := mkI fun (a : Nat) env S' => ∃ o r' v5 v6, isSrc o ∧ Alk ps r r' ∧ S' = o :: S ∧ env = [some (.r 0), some (.d (Pp ps)), some (.d (T_ r)), some (.d (.int t)), some (.d (L_ r')), v5, v6]
  refine wp_rngN 0 t rfl rfl (by omega) I ((hI _ _ _).mpr ⟨o, r, _, _, ho, .refl _, rfl, rfl⟩) ?_ ?_
  · intro a env S' _ ha hi
    obtain ⟨o, r', v5, v6, ho, hal, rfl, rfl⟩ := (hI _ _ _).mp hi
    have hlen := hal.perm.length_eq
    simp
    refine sp_next (by omega) ho (by split <;> omega) (by split <;> omega) fun k o1 ho1 k0 k1 => ?_
    obtain ⟨k, rfl⟩ := Int.eq_ofNat_of_zero_le k0
    simp
    by_cases hk : k + 1 < r'.length
    · have e1 : atI r' (k : Int) = some r'[k] := atI_nat (List.getElem?_eq_getElem (by omega))
      have e2 : atI r' ((k : Int) + 1) = some r'[k + 1] := by
        rw [show ((k : Int) + 1) = ((k + 1 : Nat) : Int) by omega]
        exact atI_nat (List.getElem?_eq_getElem hk)
      have hk' : (k : Int) + 1 < (r'.length : Int) := by omega
      simp [hk', e1, e2, sp_law_may (show 1 ≤ n - 1 by omega) hp]
      by_cases hm : may ps r'[k] r'[k + 1] = true
      · simp [hm]
        rw [bin_catL (by simp; omega)]
        simp only [ofO_some, wp_ok]
        rw [show ((k : Int) + 2) = ((k + 2 : Nat) : Int) by omega, cut_from, bin_catL (by simp; omega)]
        simp only [ofO_some, wp_ok]
        refine (hI _ _ _).mpr ⟨o1, r'.take k ++ r'[k + 1] :: r'[k] :: r'.drop (k + 2), some (.d (.int a)), some (.d (.int k)), ho1, hal.step (chg_at hk hm), rfl, ?_⟩
        simp
      · simp [hm]
        exact (hI _ _ _).mpr ⟨o1, r', _, _, ho1, hal, rfl, rfl⟩
    · have hk' : ¬ (k : Int) + 1 < (r'.length : Int) := by omega
      simp [hk']
      exact (hI _ _ _).mpr ⟨o1, r', _, _, ho1, hal, rfl, rfl⟩
  · intro env S' hi
    obtain ⟨o, r', v5, v6, ho, hal, rfl, rfl⟩ := (hI _ _ _).mp hi
    simp
    exact q r' o ho hal
end
end Law

set_option Elab.async false
set_option linter.all false
set_option autoImplicit false
set_option maxRecDepth 100000
set_option maxHeartbeats 4000000
/-! The least row: one for all rows alike, and no row alike is less. -/
namespace Law
open PySem L2 Itp
theorem ltP_irr (q : Int × Int) : ltP q q = false := by
  unfold ltP; rw [decide_eq_false_iff_not]; omega
theorem ltP_le {q m : Int × Int} (h : ltP q m = false) : m.1 ≤ q.1 := by
  unfold ltP at h; rw [decide_eq_false_iff_not] at h; omega
theorem minP_low : ∀ (l : List (Int × Int)) (m : Int × Int), ∀ q ∈ m :: l, (minP m l).1 ≤ q.1
  | [], m, q, hq => by
    simp at hq; subst hq; exact Int.le_refl _
  | p :: r, m, q, hq => by
    have ih := minP_low r (if ltP p m then p else m)
    show (minP (if ltP p m then p else m) r).1 ≤ q.1
    have hd := ih _ List.mem_cons_self
    rcases List.mem_cons.mp hq with rfl | hq
    · refine Int.le_trans hd ?_
      split
      · rename_i h; unfold ltP at h; have := of_decide_eq_true h; omega
      · exact Int.le_refl _
    · rcases List.mem_cons.mp hq with rfl | hq
      · refine Int.le_trans hd ?_
        split
        · exact Int.le_refl _
        · rename_i h
          exact ltP_le (by simpa using h)
      · exact ih q (List.mem_cons_of_mem _ hq)
section
variable {ps : List (Int × Int)} (irr : ∀ a, may ps a a = false)
include irr
/-- a letter that can come first stands at a place of firsts -/
theorem fst_place {r s : List Int} {x : Int} (h : Alk ps r (x :: s)) : ∃ k ∈ firsts ps r, r.getD k 0 = x := by
  obtain ⟨u, v, rfl, _, hc, _⟩ := fst_split irr h
  refine ⟨u.length, ?_, by simp⟩
  unfold firsts
  rw [List.mem_filter]
  refine ⟨by simp, ?_⟩
  unfold isFirst
  rw [List.all_eq_true]
  intro y hy
  have hy : y ∈ u := by simpa using hy
  rw [may_comm]
  simpa using hc y hy
theorem least_cons {r : List Int} (h : r ≠ []) : ∃ (k : Nat) (x : Int), k < r.length ∧ Alk ps r (x :: r.eraseIdx k) ∧ leastR ps r = x :: leastR ps (r.eraseIdx k) ∧ ∀ y s, Alk ps r (y :: s) → x ≤ y := by
  obtain ⟨k, hk, hf, hn⟩ := nextP_ok (ps := ps) h
  refine ⟨k, r.getD k 0, hk, alk_first hk hf, ?_, ?_⟩
  · unfold leastR
    obtain ⟨m, hm⟩ : ∃ m, r.length = m + 1 := ⟨r.length - 1, by omega⟩
    rw [hm]
    show (nextP ps r).1 :: leastN ps m (r.eraseIdx (nextP ps r).2.toNat) = _
    rw [hn]
    have : (r.eraseIdx k).length = m := by rw [List.length_eraseIdx_of_lt hk]; omega
    rw [this]
    rfl
  · intro y s hs
    obtain ⟨j, hj, rfl⟩ := fst_place irr hs
    have hlow : (nextP ps r).1 ≤ r.getD j 0 := by
      have hmem : (r.getD j 0, (j : Int)) ∈ cand ps r := List.mem_map.mpr ⟨j, hj, rfl⟩
      unfold nextP
      split
      · rename_i hc; rw [hc] at hmem; cases hmem
      · rename_i m l hc
        rw [hc] at hmem
        exact minP_low l m _ hmem
    rw [hn] at hlow
    exact hlow
theorem least_alkN : ∀ (n : Nat) (r s : List Int), r.length = n → Alk ps r s → leastR ps r = leastR ps s
  | 0, r, s, hr, h => by
    have : r = [] := List.length_eq_zero_iff.mp hr
    subst this
    have : s = [] := List.length_eq_zero_iff.mp (by rw [← h.perm.length_eq]; rfl)
    subst this
    rfl
  | n + 1, r, s, hr, h => by
    have hs : s.length = n + 1 := by rw [← h.perm.length_eq]; exact hr
    obtain ⟨k, x, hk, a1, e1, m1⟩ := least_cons irr (r := r) (by intro z; rw [z] at hr; cases hr)
    obtain ⟨j, y, hj, a2, e2, m2⟩ := least_cons irr (r := s) (by intro z; rw [z] at hs; cases hs)
    have hxy : x = y := Int.le_antisymm (m1 y _ (h.trans a2)) (m2 x _ (h.symm.trans a1))
    subst hxy
    rw [e1, e2]
    congr 1
    exact least_alkN n _ _ (by rw [List.length_eraseIdx_of_lt hk]; omega) (alk_cancel1 irr ((a1.symm.trans h).trans a2))
theorem least_alk {r s : List Int} (h : Alk ps r s) : leastR ps r = leastR ps s := least_alkN irr _ r s rfl h
theorem least_iff {r s : List Int} : leastR ps r = leastR ps s ↔ Alk ps r s :=
  ⟨fun h => (alk_least ps r).trans (by rw [h]; exact (alk_least ps s).symm), least_alk irr⟩
theorem least_idem (r : List Int) : leastR ps (leastR ps r) = leastR ps r := (least_alk irr (alk_least ps r)).symm
theorem least_lowN : ∀ (n : Nat) (r s : List Int), r.length = n → Alk ps r s → ltR s (leastR ps r) = false
  | 0, r, s, hr, h => by
    have : r = [] := List.length_eq_zero_iff.mp hr
    subst this
    have : s = [] := List.length_eq_zero_iff.mp (by rw [← h.perm.length_eq]; rfl)
    subst this
    rfl
  | n + 1, r, s, hr, h => by
    obtain ⟨k, x, hk, a1, e1, m1⟩ := least_cons irr (r := r) (by intro z; rw [z] at hr; cases hr)
    cases s with
    | nil => have := h.perm.length_eq; rw [hr] at this; cases this
    | cons y s =>
      have hxy := m1 y s h
      rw [e1]
      simp only [ltR, HT.lexLt]
      by_cases e : y = x
      · subst e
        rw [if_pos rfl]
        exact least_lowN n _ s (by rw [List.length_eraseIdx_of_lt hk]; omega) (alk_cancel1 irr (a1.symm.trans h))
      · rw [if_neg e, decide_eq_false_iff_not]
        omega
theorem least_low {r s : List Int} (h : Alk ps r s) : ltR s (leastR ps r) = false := least_lowN irr _ r s rfl h
end
end Law

set_option Elab.async false
set_option linter.all false
set_option autoImplicit false
set_option maxRecDepth 100000
set_option maxHeartbeats 4000000
/-! Plain: how many changes lead from one row to another; how many rows there are. -/
namespace Law
open PySem L2 Itp
/-- so many changes lead from r to s -/
inductive Stp (ps : List (Int × Int)) (r : List Int) : Nat → List Int → Prop
  | zero : Stp ps r 0 r
  | succ {n : Nat} {s t : List Int} : Stp ps r n s → Chg ps s t → Stp ps r (n + 1) t
/-- as few as can be -/
def Lev (ps : List (Int × Int)) (r : List Int) (n : Nat) (s : List Int) : Prop := Stp ps r n s ∧ ∀ m, m < n → ¬ Stp ps r m s
section
variable {ps : List (Int × Int)} {r s t : List Int}
theorem Stp.alk {n : Nat} (h : Stp ps r n s) : Alk ps r s := by
  induction h with
  | zero => exact .refl _
  | succ _ c ih => exact .step ih c
theorem stp_of (h : Alk ps r s) : ∃ n, Stp ps r n s := by
  induction h with
  | refl => exact ⟨0, .zero⟩
  | step _ c ih => obtain ⟨n, hn⟩ := ih; exact ⟨n + 1, .succ hn c⟩
theorem lev_of : ∀ (n : Nat), Stp ps r n s → ∃ m, m ≤ n ∧ Lev ps r m s := by
  intro n
  induction n using Nat.strongRecOn with
  | _ n ih =>
    intro h
    by_cases hm : ∃ m, m < n ∧ Stp ps r m s
    · obtain ⟨m, hm, hs⟩ := hm
      obtain ⟨k, hk, hl⟩ := ih m hm hs
      exact ⟨k, by omega, hl⟩
    · exact ⟨n, Nat.le_refl _, h, fun m hm' hs => hm ⟨m, hm', hs⟩⟩
theorem lev_alk (h : Alk ps r s) : ∃ n, Lev ps r n s := by
  obtain ⟨n, hn⟩ := stp_of h
  obtain ⟨m, _, hm⟩ := lev_of n hn
  exact ⟨m, hm⟩
theorem Lev.one {m n : Nat} (h : Lev ps r m s) (k : Lev ps r n s) : m = n := by
  rcases Nat.lt_trichotomy m n with c | c | c
  · exact (k.2 m c h.1).elim
  · exact c
  · exact (h.2 n c k.1).elim
theorem Lev.pred {n : Nat} (h : Lev ps r (n + 1) s) : ∃ t, Lev ps r n t ∧ Chg ps t s := by
  obtain ⟨h1, h2⟩ := h
  cases h1 with
  | @succ _ t _ a c => exact ⟨t, ⟨a, fun m hm hs => h2 (m + 1) (by omega) (.succ hs c)⟩, c⟩
theorem Lev.down : ∀ (k : Nat) {n : Nat} {s : List Int}, Lev ps r (n + k) s → ∃ t, Lev ps r n t
  | 0, n, s, h => ⟨s, h⟩
  | k + 1, n, s, h => by
    obtain ⟨t, ht, _⟩ := Lev.pred (n := n + k) h
    exact Lev.down k ht
theorem Stp.trans {m n : Nat} (h : Stp ps r m s) (k : Stp ps s n t) : Stp ps r (m + n) t := by
  induction k with
  | zero => exact h
  | succ _ c ih => exact .succ ih c
theorem Stp.symm {n : Nat} (h : Stp ps r n s) : Stp ps s n r := by
  induction h with
  | zero => exact .zero
  | @succ n a b _ c ih =>
    have := Stp.trans (.succ .zero c.symm) ih
    rw [show 0 + 1 + n = n + 1 by omega] at this
    exact this
theorem Stp.cons {n : Nat} (x : Int) (h : Stp ps r n s) : Stp ps (x :: r) n (x :: s) := by
  induction h with
  | zero => exact .zero
  | succ _ c ih =>
    obtain ⟨u, v, a, b, m⟩ := c
    exact .succ ih (Chg.mk (x :: u) v a b m)
theorem stp_front {x : Int} {v : List Int} : ∀ {u : List Int}, (∀ y ∈ u, may ps x y = true) → Stp ps (u ++ x :: v) u.length (x :: (u ++ v))
  | [], _ => .zero
  | y :: u, h => by
    have ih := stp_front (v := v) (u := u) fun z hz => h z (List.mem_cons_of_mem _ hz)
    exact .succ (ih.cons y) (Chg.mk [] (u ++ v) y x (by rw [may_comm]; exact h y List.mem_cons_self))
/-- no more changes than pairs of places -/
theorem stp_few (irr : ∀ a, may ps a a = false) : ∀ (n : Nat) (r s : List Int), r.length = n → Alk ps r s → ∃ m, m ≤ n * n ∧ Stp ps r m s
  | 0, r, s, hr, h => by
    have : r = [] := List.length_eq_zero_iff.mp hr
    subst this
    have : s = [] := List.length_eq_zero_iff.mp (by rw [← h.perm.length_eq]; rfl)
    subst this
    exact ⟨0, by omega, .zero⟩
  | n + 1, r, s, hr, h => by
    cases s with
    | nil => have := h.perm.length_eq; rw [hr] at this; cases this
    | cons x s =>
      obtain ⟨u, v, rfl, _, hc, ha⟩ := fst_split irr h
      have hl : u.length + v.length = n := by simp at hr; omega
      obtain ⟨m, hm, hs⟩ := stp_few irr n (u ++ v) s (by rw [List.length_append]; omega) ha
      refine ⟨u.length + m, ?_, (stp_front hc).trans (hs.cons x)⟩
      have e : (n + 1) * (n + 1) = n * n + 2 * n + 1 := by rw [Nat.add_mul, Nat.mul_add]; omega
      omega
theorem lev_few (irr : ∀ a, may ps a a = false) {n : Nat} (h : Lev ps r n s) : n ≤ r.length * r.length := by
  obtain ⟨m, hm, hs⟩ := stp_few irr r.length r s rfl h.1.alk
  rcases Nat.lt_or_ge m n with c | c
  · exact (h.2 m c hs).elim
  · omega
end
/-! ### all orders of a row -/
def inserts (x : Int) : List Int → List (List Int)
  | [] => [[x]]
  | y :: r => (x :: y :: r) :: (inserts x r).map (y :: ·)
def perms : List Int → List (List Int)
  | [] => [[]]
  | x :: r => (perms r).flatMap (inserts x)
def fact : Nat → Nat
  | 0 => 1
  | n + 1 => (n + 1) * fact n
theorem inserts_len (x : Int) : ∀ l : List Int, (inserts x l).length = l.length + 1
  | [] => rfl
  | y :: r => by simp [inserts, inserts_len x r]
theorem inserts_all {x : Int} : ∀ {l s : List Int}, s ∈ inserts x l → s.length = l.length + 1
  | [], s, h => by simp [inserts] at h; subst h; rfl
  | y :: r, s, h => by
    simp [inserts] at h
    rcases h with rfl | ⟨t, ht, rfl⟩
    · rfl
    · simp [inserts_all ht]
theorem mem_inserts (x : Int) : ∀ (u v : List Int), u ++ x :: v ∈ inserts x (u ++ v)
  | [], [] => by simp [inserts]
  | [], y :: v => by simp [inserts]
  | y :: u, v => by
    rw [List.cons_append, List.cons_append]
    unfold inserts
    exact List.mem_cons_of_mem _ (List.mem_map.mpr ⟨_, mem_inserts x u v, rfl⟩)
theorem mem_perms : ∀ {r s : List Int}, r.Perm s → s ∈ perms r
  | [], s, h => by rw [List.perm_nil.mp h.symm]; simp [perms]
  | x :: r, s, h => by
    have hx : x ∈ s := h.subset List.mem_cons_self
    obtain ⟨u, v, rfl⟩ := List.append_of_mem hx
    have hp : r.Perm (u ++ v) := by
      have := h.trans List.perm_middle
      exact List.Perm.cons_inv this
    unfold perms
    exact List.mem_flatMap.mpr ⟨u ++ v, mem_perms hp, mem_inserts x u v⟩
theorem perms_all : ∀ {r s : List Int}, s ∈ perms r → s.length = r.length
  | [], s, h => by simp [perms] at h; subst h; rfl
  | x :: r, s, h => by
    unfold perms at h
    obtain ⟨t, ht, hs⟩ := List.mem_flatMap.mp h
    rw [inserts_all hs, perms_all ht]
    rfl
theorem flat_len {f : List Int → List (List Int)} {k : Nat} : ∀ {l : List (List Int)}, (∀ x ∈ l, (f x).length = k) → (l.flatMap f).length = l.length * k
  | [], _ => by simp
  | x :: l, h => by
    rw [List.flatMap_cons, List.length_append, h x List.mem_cons_self, flat_len fun y hy => h y (List.mem_cons_of_mem _ hy), List.length_cons, Nat.add_mul]
    omega
theorem perms_len : ∀ r : List Int, (perms r).length = fact r.length
  | [] => rfl
  | x :: r => by
    unfold perms
    rw [flat_len (k := r.length + 1) fun s hs => by rw [inserts_len, perms_all hs], perms_len r, List.length_cons]
    show fact r.length * (r.length + 1) = (r.length + 1) * fact r.length
    rw [Nat.mul_comm]
theorem nodup_len_le {α : Type} [DecidableEq α] : ∀ {a b : List α}, a.Nodup → (∀ x ∈ a, x ∈ b) → a.length ≤ b.length
  | [], _, _, _ => by simp
  | x :: a, b, hn, h => by
    rw [List.nodup_cons] at hn
    have hx := h x List.mem_cons_self
    have := nodup_len_le (a := a) (b := b.erase x) hn.2 fun y hy => by
      have hne : y ≠ x := fun e => hn.1 (e ▸ hy)
      exact (List.mem_erase_of_ne hne).mpr (h y (List.mem_cons_of_mem _ hy))
    have e := List.length_erase_of_mem hx
    have := List.length_pos_of_mem hx
    rw [List.length_cons]
    omega
theorem fact_le {n : Nat} (h : n ≤ 8) : fact n ≤ 40320 := by
  have : n = 0 ∨ n = 1 ∨ n = 2 ∨ n = 3 ∨ n = 4 ∨ n = 5 ∨ n = 6 ∨ n = 7 ∨ n = 8 := by omega
  rcases this with rfl | rfl | rfl | rfl | rfl | rfl | rfl | rfl | rfl <;> decide
/-- few rows are alike -/
structure Few (r : List Int) : Prop where
  len : r.length ≤ 9
  few : ∀ l : List (List Int), l.Nodup → (∀ s ∈ l, r.Perm s) → l.length ≤ 90000
theorem few8 {r : List Int} (hr : r.length ≤ 8) : Few r := by
  refine ⟨by omega, fun l hn h => ?_⟩
  have := nodup_len_le hn fun s hs => mem_perms (h s hs)
  rw [perms_len] at this
  exact Nat.le_trans this (Nat.le_trans (fact_le hr) (by omega))
theorem flat_le {α : Type} {f : α → List (List Int)} {k : Nat} : ∀ {l : List α}, (∀ x ∈ l, (f x).length ≤ k) → (l.flatMap f).length ≤ l.length * k
  | [], _ => by simp
  | x :: l, h => by
    have h1 := h x List.mem_cons_self
    have h2 := flat_le (f := f) (k := k) fun y (hy : y ∈ l) => h y (List.mem_cons_of_mem _ hy)
    rw [List.flatMap_cons, List.length_append, List.length_cons, Nat.add_mul]
    omega
def L5 : List Int := [0, 1, 2, 3, 4]
def cand5 (r : List Int) : List (List Int) := L5.flatMap fun a => L5.flatMap fun b => L5.flatMap fun c => if (((r.erase a).erase b).erase c).length = 6 then (perms (((r.erase a).erase b).erase c)).map fun t => a :: b :: c :: t else []
theorem cand5_len (r : List Int) : (cand5 r).length ≤ 5 * (5 * (5 * 720)) := by
  refine flat_le (l := L5) fun a _ => flat_le (l := L5) fun b _ => flat_le (l := L5) fun c _ => ?_
  split
  · rename_i h
    rw [List.length_map, perms_len, h]
    decide
  · simp
theorem few9 {r : List Int} (hr : r.length ≤ 9) (lo : ∀ x ∈ r, 0 ≤ x) (hi : ∀ x ∈ r, x < 5) : Few r := by
  by_cases h8 : r.length ≤ 8
  · exact few8 h8
  refine ⟨hr, fun l hn h => ?_⟩
  have in5 : ∀ x ∈ r, x ∈ L5 := by
    intro x hx
    have := lo x hx
    have := hi x hx
    have : x = 0 ∨ x = 1 ∨ x = 2 ∨ x = 3 ∨ x = 4 := by omega
    simpa [L5] using this
  refine Nat.le_trans (nodup_len_le hn (b := cand5 r) fun s hs => ?_) (cand5_len r)
  have hp := h s hs
  have hl := hp.length_eq
  match s, hp, hl with
  | [], _, hl => exact (h8 (by rw [hl]; simp)).elim
  | [_], _, hl => exact (h8 (by rw [hl]; simp)).elim
  | [_, _], _, hl => exact (h8 (by rw [hl]; simp)).elim
  | a :: b :: c :: t, hp, hl =>
    have p1 := hp.erase a
    rw [List.erase_cons_head] at p1
    have p2 := p1.erase b
    rw [List.erase_cons_head] at p2
    have p3 := p2.erase c
    rw [List.erase_cons_head] at p3
    have l3 := p3.length_eq
    simp only [List.length_cons] at hl
    have ha : a ∈ L5 := in5 a (hp.symm.subset (by simp))
    have hb : b ∈ L5 := in5 b (hp.symm.subset (by simp))
    have hc : c ∈ L5 := in5 c (hp.symm.subset (by simp))
    refine List.mem_flatMap.mpr ⟨a, ha, List.mem_flatMap.mpr ⟨b, hb, List.mem_flatMap.mpr ⟨c, hc, ?_⟩⟩⟩
    rw [if_pos (by omega)]
    exact List.mem_map.mpr ⟨t, mem_perms p3, rfl⟩
theorem rows_few {ps : List (Int × Int)} {r : List Int} (hr : Few r) {l : List (List Int)} (hn : l.Nodup) (h : ∀ s ∈ l, Alk ps r s) : l.length ≤ 90000 := hr.few l hn fun s hs => (h s hs).perm
end Law

set_option Elab.async false
set_option linter.all false
set_option autoImplicit false
set_option maxRecDepth 100000
set_option maxHeartbeats 4000000
/-! Plain: rows turned round, letters that can come first in order, the greatest common beginning. -/
namespace Itp
open PySem L2
/-! ### numbers in order -/
def insI (x : Int) : List Int → List Int
  | [] => [x]
  | y :: r => if x < y then x :: y :: r else y :: insI x r
def sortI (l : List Int) : List Int := l.foldl (fun acc x => insI x acc) []
theorem insD_I (x : Int) : ∀ l : List Int, insD (.int x) (l.map .int) = (insI x l).map .int
  | [] => rfl
  | y :: r => by
    have h : PySem.W.dataLt (.int x) (.int y) = decide (x < y) := by
      have q : PyProof.Rows.itemLt (.inl x) (.inl y) = decide (x < y) := rfl
      have q2 : PyProof.Rows.itemLt (.inl y) (.inl x) = decide (y < x) := rfl
      unfold PySem.W.dataLt
      simp only [PySem.W.keyToks, PyProof.Rows.lexLt, q, q2]
      by_cases h1 : x < y <;> by_cases h2 : y < x <;> simp [h1, h2]
    show (if PySem.W.dataLt (.int x) (.int y) = true then PyData.int x :: .int y :: r.map .int else .int y :: insD (.int x) (r.map .int)) = _
    rw [h, insD_I x r]
    show _ = (if x < y then x :: y :: r else y :: insI x r).map PyData.int
    by_cases hxy : x < y <;> simp [hxy]
theorem sortD_I (l : List Int) : sortD (l.map .int) = (sortI l).map .int := by
  have key : ∀ (l acc : List Int), (l.map PyData.int).foldl (fun acc x => insD x acc) (acc.map .int) = (l.foldl (fun acc x => insI x acc) acc).map .int := by
    intro l
    induction l with
    | nil => intro acc; rfl
    | cons x l ih =>
      intro acc
      rw [List.map_cons, List.foldl_cons, List.foldl_cons, insD_I, ih]
  exact key l []
theorem homog_I (l : List Int) : homog (l.map .int) = true := by
  unfold homog
  rw [List.all_eq_true]
  intro x hx
  obtain ⟨p, _, rfl⟩ := List.mem_map.mp hx
  rw [(sh_int p 0).shaped (by omega), show plainD (.int p) = true from rfl, Bool.true_and, Bool.true_and, List.all_eq_true]
  intro y hy
  obtain ⟨q, _, rfl⟩ := List.mem_map.mp hy
  rfl
theorem sorted_I {S : Sto} (l : List Int) : b1D S .sorted (.d (.list (l.map .int))) = some (.list ((sortI l).map .int)) := by
  show (if homog (l.map .int) = true then some (PyData.list (sortD (l.map .int))) else none) = _
  rw [homog_I, sortD_I]
  rfl
theorem insI_perm (x : Int) : ∀ l, (insI x l).Perm (x :: l)
  | [] => .refl _
  | y :: r => by
    unfold insI
    split
    · exact .refl _
    · exact ((insI_perm x r).cons y).trans (.swap x y r)
theorem sortI_perm (l : List Int) : (sortI l).Perm l := by
  have key : ∀ (l acc : List Int), (l.foldl (fun acc x => insI x acc) acc).Perm (l ++ acc) := by
    intro l
    induction l with
    | nil => intro acc; exact .refl _
    | cons x l ih =>
      intro acc
      refine (ih (insI x acc)).trans ?_
      exact ((insI_perm x acc).append_left l).trans List.perm_middle
  have := key l []
  rwa [List.append_nil] at this
theorem insI_asc {x : Int} : ∀ {l : List Int}, l.Pairwise (· ≤ ·) → (insI x l).Pairwise (· ≤ ·)
  | [], _ => by simp [insI]
  | y :: r, h => by
    rw [List.pairwise_cons] at h
    unfold insI
    split
    · rename_i hxy
      rw [List.pairwise_cons, List.pairwise_cons]
      refine ⟨fun z hz => ?_, h⟩
      rcases List.mem_cons.mp hz with rfl | hz
      · omega
      · have := h.1 z hz; omega
    · rename_i hxy
      rw [List.pairwise_cons]
      refine ⟨fun z hz => ?_, insI_asc h.2⟩
      rcases List.mem_cons.mp ((insI_perm x r).mem_iff.mp hz) with rfl | hz
      · omega
      · exact h.1 z hz
theorem sortI_asc (l : List Int) : (sortI l).Pairwise (· ≤ ·) := by
  have key : ∀ (l acc : List Int), acc.Pairwise (· ≤ ·) → (l.foldl (fun acc x => insI x acc) acc).Pairwise (· ≤ ·) := by
    intro l
    induction l with
    | nil => intro acc h; exact h
    | cons x l ih => intro acc h; exact ih _ (insI_asc h)
  exact key l [] .nil
end Itp
namespace Law
open PySem L2 Itp
theorem chg_rev {ps : List (Int × Int)} {r s : List Int} (h : Chg ps r s) : Chg ps r.reverse s.reverse := by
  obtain ⟨u, v, a, b, m⟩ := h
  have := Chg.mk (ps := ps) v.reverse u.reverse b a (by rw [may_comm]; exact m)
  simpa using this
theorem alk_rev {ps : List (Int × Int)} {r s : List Int} (h : Alk ps r s) : Alk ps r.reverse s.reverse := by
  induction h with
  | refl => exact .refl _
  | step _ c ih => exact .step ih (chg_rev c)
/-! ### letters that can come first, in order -/
def isF (ps : List (Int × Int)) (r : List Int) (k : Nat) : Bool := !decide (r.getD k 0 ∈ r.take k) && (r.take k).all fun b => may ps (r.getD k 0) b
def fstL (ps : List (Int × Int)) (r : List Int) : List Int := ((List.range r.length).filter (isF ps r)).map fun k => r.getD k 0
def fsts (ps : List (Int × Int)) (r : List Int) : List Int := sortI (fstL ps r)
section
variable {ps : List (Int × Int)} (irr : ∀ a, may ps a a = false)
include irr
theorem mem_fsts {r : List Int} {x : Int} : x ∈ fsts ps r ↔ ∃ s, Alk ps r (x :: s) := by
  unfold fsts fstL
  rw [(sortI_perm _).mem_iff, List.mem_map]
  constructor
  · rintro ⟨k, hk, rfl⟩
    obtain ⟨h1, h2⟩ := List.mem_filter.mp hk
    have hk := List.mem_range.mp h1
    unfold isF at h2
    rw [Bool.and_eq_true] at h2
    obtain ⟨e1, e2⟩ := erase_split hk
    refine ⟨r.eraseIdx k, ?_⟩
    rw [e2]
    have := alk_front (ps := ps) (x := r.getD k 0) (v := r.drop (k + 1)) (u := r.take k) fun y hy => List.all_eq_true.mp h2.2 y hy
    rw [← e1] at this
    exact this
  · rintro ⟨s, hs⟩
    obtain ⟨u, v, rfl, hu, hc, _⟩ := fst_split irr hs
    refine ⟨u.length, List.mem_filter.mpr ⟨by simp, ?_⟩, by simp⟩
    unfold isF
    rw [Bool.and_eq_true, List.all_eq_true]
    refine ⟨by simpa using hu, fun y hy => ?_⟩
    have hy : y ∈ u := by simpa using hy
    simpa using hc y hy
theorem fsts_ne {r : List Int} (h : r ≠ []) : ∃ x l, fsts ps r = x :: l ∧ (∃ s, Alk ps r (x :: s)) ∧ ∀ y s, Alk ps r (y :: s) → x ≤ y := by
  obtain ⟨z, r', rfl⟩ := List.exists_cons_of_ne_nil h
  have hz : z ∈ fsts ps (z :: r') := (mem_fsts irr).mpr ⟨r', .refl _⟩
  obtain ⟨x, l, e⟩ := List.exists_cons_of_ne_nil (List.ne_nil_of_mem hz)
  refine ⟨x, l, e, (mem_fsts irr).mp (by rw [e]; exact List.mem_cons_self), fun y s hs => ?_⟩
  have hy := (mem_fsts irr).mpr ⟨s, hs⟩
  have ha : (fsts ps (z :: r')).Pairwise (· ≤ ·) := sortI_asc _
  rw [e] at hy ha
  rw [List.pairwise_cons] at ha
  rcases List.mem_cons.mp hy with rfl | hy
  · exact Int.le_refl _
  · exact ha.1 y hy
theorem alk_erase {r s : List Int} {x : Int} (h : Alk ps r (x :: s)) : Alk ps r (x :: r.erase x) := by
  obtain ⟨u, v, rfl, hu, hc, _⟩ := fst_split irr h
  have e : (u ++ x :: v).erase x = u ++ v := by
    rw [List.erase_append_right _ hu]
    simp
  rw [e]
  exact alk_front hc
theorem least_step {r : List Int} {x : Int} (hx : ∃ s, Alk ps r (x :: s)) (hm : ∀ y s, Alk ps r (y :: s) → x ≤ y) : leastR ps r = x :: leastR ps (r.erase x) := by
  obtain ⟨s, hs⟩ := hx
  have hne : r ≠ [] := by rintro rfl; have := hs.perm.length_eq; simp at this
  obtain ⟨k, y, hk, a1, e1, m1⟩ := least_cons irr hne
  have e : y = x := Int.le_antisymm (m1 x s hs) (hm y _ a1)
  subst e
  rw [e1, least_alk irr (alk_cancel1 irr (a1.symm.trans (alk_erase irr hs)))]
/-! ### the greatest common beginning -/
theorem common_ext : ∀ (n : Nat) (u a b : List Int), a.length ≤ n → ∃ v a' b', Alk ps a (v ++ a') ∧ Alk ps b (v ++ b') ∧ NoFst ps a' b'
  | n, u, a, b, hn => by
    by_cases h : NoFst ps a b
    · exact ⟨[], a, b, .refl _, .refl _, h⟩
    · have : ∃ x s t, Alk ps a (x :: s) ∧ Alk ps b (x :: t) := Classical.byContradiction fun hh => h fun x s t h1 h2 => hh ⟨x, s, t, h1, h2⟩
      obtain ⟨x, s, t, h1, h2⟩ := this
      have hl := h1.perm.length_eq
      rw [List.length_cons] at hl
      cases n with
      | zero => omega
      | succ n =>
        obtain ⟨v, a', b', k1, k2, k3⟩ := common_ext n u s t (by omega)
        exact ⟨x :: v, a', b', h1.trans (alk_cons x k1), h2.trans (alk_cons x k2), k3⟩
/-- each common beginning begins the greatest one -/
theorem common_all {a b p a' b' u a1 b1 : List Int} (ha : Alk ps a (p ++ a')) (hb : Alk ps b (p ++ b')) (hn : NoFst ps a' b') (ka : Alk ps a (u ++ a1)) (kb : Alk ps b (u ++ b1)) : ∃ v, Alk ps p (u ++ v) := by
  obtain ⟨v, a2, b2, h1, h2, h3⟩ := common_ext irr a1.length u a1 b1 (Nat.le_refl _)
  refine ⟨v, common_one irr p (u ++ v) a' a2 b' b2 hn h3 ?_ ?_⟩
  · rw [List.append_assoc]
    exact (ha.symm.trans ka).trans (alk_app irr (.refl _) h1)
  · rw [List.append_assoc]
    exact (hb.symm.trans kb).trans (alk_app irr (.refl _) h2)
end
end Law

set_option Elab.async false
set_option linter.all false
set_option autoImplicit false
set_option maxRecDepth 100000
set_option maxHeartbeats 4000000
/-! Plain: what is left behind first letters; how many such rows; the count of rows alike, by first letters. -/
namespace Law
open PySem L2 Itp
section
variable {ps : List (Int × Int)} (irr : ∀ a, may ps a a = false)
def Suf (ps : List (Int × Int)) (r0 s : List Int) : Prop := ∃ u, Alk ps r0 (u ++ s)
theorem suf_self (r0 : List Int) : Suf ps r0 r0 := ⟨[], .refl _⟩
include irr in
theorem suf_alk {r0 s t : List Int} (h : Suf ps r0 s) (k : Alk ps s t) : Suf ps r0 t := by
  obtain ⟨u, hu⟩ := h
  exact ⟨u, hu.trans (alk_app irr (.refl u) k)⟩
include irr in
theorem suf_first {r0 s : List Int} {p : Nat} (h : Suf ps r0 s) (hp : p < s.length) (hf : isFirst ps s p = true) : Suf ps r0 (s.eraseIdx p) := by
  obtain ⟨u, hu⟩ := h
  refine ⟨u ++ [s.getD p 0], ?_⟩
  have := hu.trans (alk_app irr (.refl u) (alk_first hp hf))
  rwa [List.append_assoc]
theorem only_app0 (a b : Int) (r s : List Int) : only2 a b (r ++ s) = only2 a b r ++ only2 a b s := List.filter_append ..
theorem only_len {s t : List Int} (hc : ∀ a, s.count a = t.count a) (a b : Int) : (only2 a b s).length = (only2 a b t).length := by
  by_cases h : a = b
  · subst h
    have key : ∀ r : List Int, (only2 a a r).length = r.count a := by
      intro r
      unfold only2
      rw [List.count, List.countP_eq_length_filter]
      congr 1
      refine List.filter_congr fun x _ => ?_
      rw [Bool.or_self]
      by_cases h : x = a <;> simp [h]
    rw [key, key, hc]
  · exact count_only h (hc a) (hc b)
include irr in
theorem suf_uniq {r0 s t : List Int} (h : Suf ps r0 s) (k : Suf ps r0 t) (hc : ∀ a, s.count a = t.count a) : Alk ps s t := by
  refine alk_of irr fun a b hab => ?_
  obtain ⟨u, hu⟩ := h
  obtain ⟨v, hv⟩ := k
  have e1 := alk_only irr hu hab
  have e2 := alk_only irr hv hab
  rw [only_app0] at e1 e2
  exact List.append_inj_right' (e1.symm.trans e2) (only_len hc a b)
theorem Suf.count {r0 s : List Int} (h : Suf ps r0 s) (a : Int) : s.count a ≤ r0.count a := by
  obtain ⟨u, hu⟩ := h
  have := hu.perm.count_eq a
  rw [List.count_append] at this
  omega
theorem Suf.len {r0 s : List Int} (h : Suf ps r0 s) : s.length ≤ r0.length := by
  obtain ⟨u, hu⟩ := h
  have := hu.perm.length_eq
  rw [List.length_append] at this
  omega
theorem Suf.mem {r0 s : List Int} (h : Suf ps r0 s) {a : Int} (ha : a ∈ s) : a ∈ r0 := by
  obtain ⟨u, hu⟩ := h
  exact hu.perm.mem_iff.mpr (List.mem_append_right _ ha)
/-! ### lots of counts -/
def boxes : List Nat → List (List Nat)
  | [] => [[]]
  | c :: cs => (List.range (c + 1)).flatMap fun i => (boxes cs).map (i :: ·)
def prodS : List Nat → Nat
  | [] => 1
  | c :: cs => (c + 1) * prodS cs
theorem flat_same {α β : Type} {f : α → List β} {k : Nat} : ∀ {l : List α}, (∀ x ∈ l, (f x).length = k) → (l.flatMap f).length = l.length * k
  | [], _ => by simp
  | x :: r, h => by
    rw [List.flatMap_cons, List.length_append, h x List.mem_cons_self, flat_same fun y hy => h y (List.mem_cons_of_mem _ hy), List.length_cons, Nat.succ_mul, Nat.add_comm]
theorem boxes_len : ∀ cs : List Nat, (boxes cs).length = prodS cs
  | [] => rfl
  | c :: cs => by
    unfold boxes prodS
    rw [flat_same (k := prodS cs), List.length_range]
    intro i _
    rw [List.length_map, boxes_len cs]
theorem mem_boxes {f g : Nat → Nat} : ∀ (l : List Nat), (∀ i ∈ l, f i ≤ g i) → l.map f ∈ boxes (l.map g)
  | [], _ => by simp [boxes]
  | i :: r, h => by
    rw [List.map_cons, List.map_cons]
    unfold boxes
    refine List.mem_flatMap.mpr ⟨f i, List.mem_range.mpr ?_, List.mem_map.mpr ⟨_, mem_boxes r fun j hj => h j (List.mem_cons_of_mem _ hj), rfl⟩⟩
    have := h i List.mem_cons_self
    omega
theorem pow4 : ∀ c, c ≤ 20 → (c + 1) ^ 4 ≤ 41 * 2 ^ c := by decide
theorem prodS_le : ∀ cs : List Nat, cs.sum ≤ 20 → prodS cs ^ 4 ≤ 41 ^ cs.length * 2 ^ cs.sum
  | [], _ => by decide
  | c :: cs, h => by
    rw [List.sum_cons] at h
    have ih := prodS_le cs (by omega)
    have p := pow4 c (by omega)
    unfold prodS
    rw [Nat.mul_pow, List.length_cons, List.sum_cons]
    refine Nat.le_trans (Nat.mul_le_mul p ih) (Nat.le_of_eq ?_)
    rw [Nat.pow_succ, Nat.pow_add]
    simp only [Nat.mul_assoc, Nat.mul_left_comm, Nat.mul_comm]
theorem prodS_few {cs : List Nat} (hs : cs.sum ≤ 20) (hl : cs.length ≤ 6) : prodS cs ≤ 8500 := by
  rcases Nat.lt_or_ge 8500 (prodS cs) with h | h
  · exfalso
    have h1 := prodS_le cs hs
    have h2 : 8501 ^ 4 ≤ prodS cs ^ 4 := Nat.pow_le_pow_left h 4
    have h3 : 41 ^ cs.length ≤ 41 ^ 6 := Nat.pow_le_pow_right (by decide) hl
    have h4 : 2 ^ cs.sum ≤ 2 ^ 20 := Nat.pow_le_pow_right (by decide) hs
    have h5 := Nat.le_trans h2 (Nat.le_trans h1 (Nat.mul_le_mul h3 h4))
    exact absurd h5 (by decide)
  · exact h
def cv (L : Nat) (r : List Int) : List Nat := (List.range L).map fun (i : Nat) => r.count (i : Int)
theorem cv_one (x : Int) : ∀ L : Nat, ((List.range L).map fun (i : Nat) => if x = (i : Int) then 1 else 0).sum ≤ if x < L then 1 else 0
  | 0 => by simp
  | L + 1 => by
    have ih := cv_one x L
    rw [List.range_succ, List.map_append, List.sum_append]
    simp only [List.map_cons, List.map_nil, List.sum_cons, List.sum_nil, Nat.add_zero]
    by_cases h : x = (L : Int)
    · have h1 : ¬ x < (L : Int) := by omega
      have h2 : x < ((L + 1 : Nat) : Int) := by omega
      rw [if_neg h1] at ih
      rw [if_pos h, if_pos h2]
      omega
    · rw [if_neg h]
      by_cases h1 : x < (L : Int)
      · rw [if_pos h1] at ih
        rw [if_pos (show x < ((L + 1 : Nat) : Int) by omega)]
        omega
      · rw [if_neg h1] at ih
        omega
theorem sum_map_add {α : Type} (f g : α → Nat) : ∀ l : List α, (l.map fun i => f i + g i).sum = (l.map f).sum + (l.map g).sum
  | [] => rfl
  | x :: r => by
    simp only [List.map_cons, List.sum_cons, sum_map_add f g r]
    omega
theorem cv_sum (L : Nat) : ∀ r : List Int, (cv L r).sum ≤ r.length
  | [] => by
    have : cv L [] = (List.range L).map fun _ => 0 := by unfold cv; simp
    rw [this]
    induction (List.range L) with
    | nil => simp
    | cons a l ih => simpa using ih
  | x :: r => by
    have ih := cv_sum L r
    have e : cv L (x :: r) = (List.range L).map fun (i : Nat) => r.count (i : Int) + if x = (i : Int) then 1 else 0 := by
      unfold cv
      refine List.map_congr_left fun i _ => ?_
      rw [List.count_cons]
      congr 1
      by_cases h : x = (i : Int) <;> simp [h]
    rw [e, sum_map_add, List.length_cons]
    have := cv_one x L
    have h2 : (if x < (L : Int) then 1 else 0) ≤ 1 := by split <;> omega
    unfold cv at ih
    omega
include irr in
/-- rows that are left behind first letters are few -/
theorem keys_few {L : Nat} (hL : L ≤ 6) {r0 : List Int} (hr : Row L 20 r0) {ks : List (List Int)} (nd : ks.Nodup) (h : ∀ s ∈ ks, Suf ps r0 s ∧ leastR ps s = s) : ks.length ≤ 8500 := by
  have inj : ∀ s ∈ ks, ∀ t ∈ ks, cv L s = cv L t → s = t := by
    intro s hs t ht e
    obtain ⟨s1, s2⟩ := h s hs
    obtain ⟨t1, t2⟩ := h t ht
    have hc : ∀ a, s.count a = t.count a := by
      intro a
      by_cases ha : 0 ≤ a ∧ a < L
      · obtain ⟨i, rfl⟩ := Int.eq_ofNat_of_zero_le ha.1
        have hi : i < L := by omega
        have := congrArg (fun l : List Nat => l[i]?) e
        simpa [cv, hi] using this
      · have z : ∀ u, Suf ps r0 u → u.count a = 0 := by
          intro u hu
          refine List.count_eq_zero.mpr fun hm => ha ?_
          exact ⟨hr.low a (hu.mem hm), hr.high a (hu.mem hm)⟩
        rw [z s s1, z t t1]
    rw [← s2, ← t2]
    exact least_alk irr (suf_uniq irr s1 t1 hc)
  have nd2 : (ks.map (cv L)).Nodup := by
    refine List.pairwise_map.mpr (nd.imp_of_mem fun {a b} ha hb hne e => hne (inj a ha b hb e))
  have hmem : ∀ x ∈ ks.map (cv L), x ∈ boxes (cv L r0) := by
    intro x hx
    obtain ⟨s, hs, rfl⟩ := List.mem_map.mp hx
    exact mem_boxes _ fun i _ => (h s hs).1.count _
  have h1 := nodup_len_le nd2 hmem
  rw [List.length_map, boxes_len] at h1
  have h2 := cv_sum L r0
  have h3 := hr.len
  exact Nat.le_trans h1 (prodS_few (by omega) (by unfold cv; simpa using hL))
/-! ### how many rows are alike, by first letters -/
def cntN (ps : List (Int × Int)) : Nat → List Int → Nat
  | 0, _ => 1
  | k + 1, r => ((firsts ps r).map fun p => cntN ps k (leastR ps (r.eraseIdx p))).sum
def cnt (ps : List (Int × Int)) (r : List Int) : Nat := cntN ps r.length r
theorem least_len (r : List Int) : (leastR ps r).length = r.length := (alk_least ps r).perm.length_eq.symm
theorem cnt_nil : cnt ps [] = 1 := rfl
theorem firsts_lt {r : List Int} {p : Nat} (h : p ∈ firsts ps r) : p < r.length ∧ isFirst ps r p = true := by
  unfold firsts at h
  obtain ⟨h1, h2⟩ := List.mem_filter.mp h
  exact ⟨List.mem_range.mp h1, h2⟩
theorem cnt_cons {r : List Int} (h : r ≠ []) : cnt ps r = ((firsts ps r).map fun p => cnt ps (leastR ps (r.eraseIdx p))).sum := by
  unfold cnt
  obtain ⟨k, hk⟩ : ∃ k, r.length = k + 1 := ⟨r.length - 1, by have : r.length ≠ 0 := fun e => h (List.length_eq_zero_iff.mp e); omega⟩
  rw [hk]
  show ((firsts ps r).map fun p => cntN ps k (leastR ps (r.eraseIdx p))).sum = _
  congr 1
  refine List.map_congr_left fun p hp => ?_
  have := (firsts_lt hp).1
  have e : (leastR ps (r.eraseIdx p)).length = k := by rw [least_len, List.length_eraseIdx]; simp [this]; omega
  show cntN ps k (leastR ps (r.eraseIdx p)) = cntN ps (leastR ps (r.eraseIdx p)).length (leastR ps (r.eraseIdx p))
  rw [e]
/-- what many_of knows -/
structure Known (ps : List (Int × Int)) (r0 : List Int) (kvs : List (List Int × Nat)) : Prop where
  nd : (kvs.map (·.1)).Nodup
  ok : ∀ q ∈ kvs, Suf ps r0 q.1 ∧ leastR ps q.1 = q.1 ∧ q.2 = cnt ps q.1
theorem known_nil (r0 : List Int) : Known ps r0 [] := ⟨by simp, by simp⟩
theorem Known.add {r0 s : List Int} {kvs : List (List Int × Nat)} (h : Known ps r0 kvs) (hs : Suf ps r0 s) (hl : leastR ps s = s) (hn : s ∉ kvs.map (·.1)) : Known ps r0 (kvs ++ [(s, cnt ps s)]) := by
  refine ⟨?_, fun q hq => ?_⟩
  · rw [List.map_append, List.nodup_append]
    refine ⟨h.nd, by simp, ?_⟩
    intro x hx y hy e
    simp at hy
    subst hy
    exact hn (e ▸ hx)
  · rcases List.mem_append.mp hq with hq | hq
    · exact h.ok q hq
    · simp at hq
      subst hq
      exact ⟨hs, hl, rfl⟩
include irr in
theorem Known.len {L : Nat} (hL : L ≤ 6) {r0 : List Int} (hr : Row L 20 r0) {kvs : List (List Int × Nat)} (h : Known ps r0 kvs) : kvs.length ≤ 8500 := by
  have := keys_few irr hL hr h.nd fun s hs => by
    obtain ⟨q, hq, rfl⟩ := List.mem_map.mp hs
    exact ⟨(h.ok q hq).1, (h.ok q hq).2.1⟩
  simpa using this
end
end Law

set_option Elab.async false
set_option linter.all false
set_option autoImplicit false
set_option maxRecDepth 100000
set_option maxHeartbeats 4000000
/-! The least of some rows; ends of rows. -/
namespace Itp
open PySem L2
def minR (m : List Int) : List (List Int) → List Int
  | [] => m
  | q :: r => minR (if ltR q m then q else m) r
theorem minD_T : ∀ (l : List (List Int)) (m : List Int), Itp.minD (T_ m) (l.map T_) = T_ (minR m l)
  | [], m => rfl
  | q :: r, m => by
    show Itp.minD (if PySem.W.dataLt (T_ q) (T_ m) = true then T_ q else T_ m) (r.map T_) = T_ (minR (if ltR q m = true then q else m) r)
    rw [dataLt_T]
    split
    · exact minD_T r q
    · exact minD_T r m
theorem minR_mem : ∀ (l : List (List Int)) (m : List Int), minR m l ∈ m :: l
  | [], m => List.mem_cons_self
  | q :: r, m => by
    have ih := minR_mem r (if ltR q m then q else m)
    show minR (if ltR q m then q else m) r ∈ m :: q :: r
    rcases List.mem_cons.mp ih with h | h
    · rw [h]
      split
      · exact List.mem_cons_of_mem _ List.mem_cons_self
      · exact List.mem_cons_self
    · exact List.mem_cons_of_mem _ (List.mem_cons_of_mem _ h)
theorem ltR_low {a b c : List Int} (h : ltR a b = false) (k : ltR b c = false) : ltR a c = false := by
  cases e : ltR a c with
  | false => rfl
  | true =>
    exfalso
    cases e2 : ltR c b with
    | true => have := ltR_trans a c b e e2; rw [h] at this; cases this
    | false =>
      have := ltR_tri b c k e2
      subst this
      rw [h] at e; cases e
theorem minR_low : ∀ (l : List (List Int)) (m : List Int), ∀ q ∈ m :: l, ltR q (minR m l) = false
  | [], m, q, hq => by
    simp at hq; subst hq; exact ltR_irr _
  | p :: r, m, q, hq => by
    have ih := minR_low r (if ltR p m then p else m)
    show ltR q (minR (if ltR p m then p else m) r) = false
    have hd := ih _ List.mem_cons_self
    have hm : ltR m (if ltR p m then p else m) = false := by
      split
      · rename_i h; exact ltR_asym h
      · exact ltR_irr _
    have hp : ltR p (if ltR p m then p else m) = false := by
      split
      · exact ltR_irr _
      · rename_i h; simpa using h
    rcases List.mem_cons.mp hq with rfl | hq
    · exact ltR_low hm hd
    · rcases List.mem_cons.mp hq with rfl | hq
      · exact ltR_low hp hd
      · exact ih q (List.mem_cons_of_mem _ hq)
theorem min_T {S : Sto} {l : List (List Int)} (h : l ≠ []) : ∃ m, b1D S .min (.d (.list (l.map T_))) = some (T_ m) ∧ m ∈ l ∧ ∀ y ∈ l, ltR y m = false := by
  obtain ⟨x, r, rfl⟩ := List.exists_cons_of_ne_nil h
  refine ⟨minR x r, ?_, minR_mem r x, minR_low r x⟩
  show (if homog ((x :: r).map T_) = true then some (Itp.minD (T_ x) (r.map T_)) else none) = _
  rw [homog_T, minD_T]
  rfl
end Itp
namespace Law
open PySem L2 Itp
section
variable {ps : List (Int × Int)} (irr : ∀ a, may ps a a = false)
include irr
theorem alk_cancelR {p r s : List Int} (h : Alk ps (r ++ p) (s ++ p)) : Alk ps r s := by
  refine alk_of irr fun a b hab => ?_
  have := alk_only irr h hab
  rw [only_app irr, only_app irr] at this
  exact List.append_cancel_right this
/-- the least of some rows, all alike to s, the least one of s among them -/
theorem min_least {s m : List Int} {l : List (List Int)} (hm : m ∈ l) (hl : ∀ y ∈ l, ltR y m = false) (ha : ∀ y ∈ l, Alk ps s y) (hs : leastR ps s ∈ l) : m = leastR ps s :=
  (ltR_tri _ _ (hl _ hs) (least_low irr (ha m hm))).symm
end
end Law

set_option Elab.async false
set_option linter.all false
set_option autoImplicit false
set_option maxRecDepth 100000
set_option maxHeartbeats 4000000
/-! Plain: dicts whose keys are numbers. -/
namespace Law
open PySem L2 Itp
abbrev ikD (kvs : List (Int × D)) : List (D × D) := kvs.map fun q => (.int q.1, q.2)
def lk (kvs : List (Int × D)) (x : Int) : Option D := (kvs.find? fun q => decide (q.1 = x)).map (·.2)
def putI (kvs : List (Int × D)) (x : Int) (v : D) : List (Int × D) := if kvs.any (fun q => decide (q.1 = x)) then kvs.map (fun q => if decide (q.1 = x) then (q.1, v) else q) else kvs ++ [(x, v)]
theorem eqv_int (a b : Int) : PyData.eqv (.int a) (.int b) = decide (a = b) := by
  have : PyData.eqv (.int a) (.int b) = (a == b) := rfl
  rw [this]
  by_cases h : a = b
  · simp [h]
  · simp [h]
theorem look_I (kvs : List (Int × D)) (x : Int) : lookD (ikD kvs) (.int x) = lk kvs x := by
  unfold lookD lk
  rw [List.find?_map, Option.map_map]
  have : ((fun q : D × D => PyData.eqv q.1 (.int x)) ∘ fun q : Int × D => ((.int q.1 : D), q.2)) = fun q : Int × D => decide (q.1 = x) := by
    funext q
    exact eqv_int q.1 x
  rw [this]
  rfl
theorem put_I (kvs : List (Int × D)) (x : Int) (v : D) : putD (ikD kvs) (.int x) v = ikD (putI kvs x v) := by
  unfold putD putI
  rw [List.any_map]
  have e : ((fun q : D × D => PyData.eqv q.1 (.int x)) ∘ fun q : Int × D => ((.int q.1 : D), q.2)) = fun q : Int × D => decide (q.1 = x) := by
    funext q
    exact eqv_int q.1 x
  rw [e]
  split
  · rw [ikD, List.map_map, ikD, List.map_map]
    refine List.map_congr_left fun q _ => ?_
    show (if PyData.eqv (.int q.1) (.int x) = true then ((.int q.1 : D), v) else (.int q.1, q.2)) = (fun q : Int × D => ((.int q.1 : D), q.2)) (if decide (q.1 = x) = true then (q.1, v) else q)
    rw [eqv_int]
    split <;> rfl
  · simp
theorem lk_put (kvs : List (Int × D)) (x y : Int) (v : D) : lk (putI kvs x v) y = if y = x then some v else lk kvs y := by
  unfold putI
  split
  · rename_i h
    induction kvs with
    | nil => simp at h
    | cons q r ih =>
      unfold lk
      rw [List.map_cons, List.find?_cons, List.find?_cons]
      by_cases hq : q.1 = x
      · simp only [hq, decide_true, if_true]
        by_cases hy : y = x
        · simp [hy]
        · have : ¬ x = y := fun e => hy e.symm
          simp only [this, decide_false, hy, if_false]
          by_cases hr : r.any (fun q => decide (q.1 = x)) = true
          · have := ih hr
            rw [if_neg hy] at this
            exact this
          · have e : r.map (fun q => if decide (q.1 = x) = true then (q.1, v) else q) = r := by
              refine (List.map_congr_left fun q hq => ?_).trans (List.map_id _)
              rw [if_neg]
              · rfl
              · intro e
                exact hr (List.any_eq_true.mpr ⟨q, hq, e⟩)
            rw [e]
      · have hr : r.any (fun q => decide (q.1 = x)) = true := by simpa [hq] using h
        have := ih hr
        simp only [hq, decide_false, Bool.false_eq_true, if_false]
        by_cases hqy : q.1 = y
        · have hyx : ¬ y = x := fun e => hq (hqy.trans e)
          simp [hqy, hyx]
        · simp only [hqy, decide_false]
          exact this
  · rename_i h
    unfold lk
    rw [List.find?_append]
    by_cases hy : y = x
    · subst hy
      have : kvs.find? (fun q => decide (q.1 = y)) = none := by
        rw [List.find?_eq_none]
        intro q hq e
        exact h (List.any_eq_true.mpr ⟨q, hq, e⟩)
      simp [this]
    · have : ¬ x = y := fun e => hy e.symm
      simp [this, hy]
theorem put_len (kvs : List (Int × D)) (x : Int) (v : D) : (putI kvs x v).length ≤ kvs.length + 1 := by
  unfold putI
  split
  · simp
  · simp
theorem dKey_I (kvs : List (Int × D)) (x : Int) : dKey (ikD kvs) (.int x) = true := by
  unfold dKey
  rw [List.all_map]
  have : okK (.int x) = true := rfl
  rw [this, Bool.true_and]
  exact List.all_eq_true.mpr fun _ _ => rfl
theorem getOr_I {S : Sto} {n : Nat} {kvs : List (Int × D)} (h : S[n]? = some (.dic (ikD kvs))) (x : Int) (z : D) : getOrD S (.r n) [.d (.int x), .d z] = some ((lk kvs x).getD z) := by
  have e : dicOf S (.r n) = some (ikD kvs) := by unfold dicOf; simp [h]
  show (match dicOf S (.r n) with | some kvs => if dKey kvs (.int x) then some ((lookD kvs (.int x)).getD z) else none | none => none) = _
  rw [e]
  simp only [dKey_I, if_true, look_I]
theorem set_I {S : Sto} {n : Nat} {kvs : List (Int × D)} (h : S[n]? = some (.dic (ikD kvs))) (hl : kvs.length < 95000) (x : Int) (v : D) {env : Ev} : setSub (.r n) (.d (.int x)) (.d v) env S = .ok env (S.set n (.dic (ikD (putI kvs x v)))) := by
  unfold setSub
  simp only [h]
  show (if dKey (ikD kvs) (.int x) && inLine ((ikD kvs).length + 1) then Re.ok env (S.set n (.dic (putD (ikD kvs) (.int x) v))) else .er) = _
  rw [dKey_I, put_I, Bool.true_and, if_pos]
  rw [List.length_map]
  exact Nat.ble_eq.mpr (by omega)
theorem get_I {S : Sto} (kvs : List (Int × D)) (x : Int) : getDic S (.int x) (.d (.dict (ikD kvs))) = lk kvs x := by
  have e : dicOf S (.d (.dict (ikD kvs))) = some (ikD kvs) := by
    show (if noIns (ikD kvs) = true then some (ikD kvs) else none) = _
    rw [if_pos (by cases kvs <;> rfl)]
  unfold getDic
  rw [e]
  simp only [dKey_I, if_true, look_I]
theorem sub_I {S : Sto} (kvs : List (Int × D)) (x : Int) : subD S (.d (.dict (ikD kvs))) (.d (.int x)) = lk kvs x := get_I kvs x
end Law

set_option Elab.async false
set_option linter.all false
set_option autoImplicit false
set_option maxRecDepth 100000
set_option maxHeartbeats 4000000
/-! What only, first_unlike, bar_of of rows.py answer. -/
namespace Law
open PySem L2 Itp
section
variable {n : Nat} {S : Sto}
theorem sp_only (hn : 1 ≤ n) {r : List Int} {a b : Int} (hr : r.length ≤ 50000) : runFn G 1000 n F_only [.d (T_ r), .d (.tuple [.int a, .int b])] S = .ok (.d (L_ (only2 a b r))) S := by
  rw [en_only (by omega)]
  simp [ir_only]
  rw [lc_map (g := PyData.int) (p := fun x => decide (x = a) || decide (x = b))]
  · simp [only2]
  · intro x hx acc
    simp [lcStep_eq, wipeE]
    split <;> rfl
  · omega
def unlike : List Int → List Int → Option Nat
  | x :: r, y :: q => if x = y then (unlike r q).map (· + 1) else some 0
  | _, _ => none
theorem sp_first_unlike (hn : 1 ≤ n) {one other : List Int} (hl : one.length = other.length) : ∃ v, runFn G 1000 n F_first_unlike [.d (L_ one), .d (L_ other)] S = .ok (.d v) S ∧ (isNone (.d v) = decide (one = other)) ∧ (one ≠ other → ∃ k : Nat, v = .int k ∧ one.take k = other.take k ∧ one[k]? ≠ other[k]?) := by
  rw [en_first_unlike (by omega)]
  by_cases hne : one = other
  · subst hne
    refine ⟨.none, ?_, by simp, fun h => absurd rfl h⟩
    apply wp_eq
    simp [ir_first_unlike]
    refine wp_enum (I := fun pre env S' => S = S' ∧ ∃ v w, env = [some (.d (L_ one)), some (.d (L_ one)), v, w]) ⟨rfl, _, _, rfl⟩ ?_ ?_
    · rintro pre p post env S' e ⟨rfl, v, w, rfl⟩
      have hat : atI one (pre.length : Int) = some p := by
        apply atI_nat
        rw [e]; simp
      simp [Nat.beq, hat]
    · rintro env S' ⟨rfl, v, w, rfl⟩
      simp
  · have key : wp (endFn false S.length (execSs (runFn G 1000 (n - 1)) 1000 ir_first_unlike [some (.d (L_ one)), some (.d (L_ other)), none, none] S)) fun v S' => S' = S ∧ ∃ k : Nat, v = .d (.int k) ∧ one.take k = other.take k ∧ one[k]? ≠ other[k]? := by
      simp [ir_first_unlike]
      refine wp_enum (I := fun pre env S' => S = S' ∧ (pre = other.take pre.length) ∧ ∃ v w, env = [some (.d (L_ one)), some (.d (L_ other)), v, w]) ⟨rfl, by simp, _, _, rfl⟩ ?_ ?_
      · rintro pre p post env S' e ⟨rfl, hpre, v, w, rfl⟩
        have hlt : pre.length < other.length := by rw [← hl, e]; simp
        have hat : atI other (pre.length : Int) = some (other[pre.length]) := by
          apply atI_nat
          exact List.getElem?_eq_getElem hlt
        simp [Nat.beq, hat]
        by_cases hp : p = other[pre.length]
        · simp [hp]
          rw [List.take_succ, List.getElem?_eq_getElem hlt, ← hpre]
          rfl
        · simp [hp]
          refine ⟨pre.length, rfl, ?_, ?_⟩
          · rw [← hpre, e]; simp
          · rw [e]; simp [List.getElem?_eq_getElem hlt, hp]
      · rintro env S' ⟨rfl, hpre, v, w, rfl⟩
        exfalso
        apply hne
        rw [hl, List.take_length] at hpre
        exact hpre
    obtain ⟨v, S', e, rfl, k, rfl, h1, h2⟩ := wp_ex key
    exact ⟨.int k, e, by simp [hne], fun _ => ⟨k, rfl, h1, h2⟩⟩
theorem sp_bar_of (hn : 2 ≤ n) {L : Nat} (hL : L ≤ 1000) {ps : List (Int × Int)} {one other : List Int} (h1 : one.length ≤ 50000) (h2 : other.length ≤ 50000) : ∃ v, runFn G 1000 n F_bar_of [.d (tr L ps), .d (T_ one), .d (T_ other)] S = .ok (.d v) S ∧ (isNone (.d v) = true ↔ same L ps one other) := by
  rw [en_bar_of (by omega)]
  have key : wp (endFn false S.length (execSs (runFn G 1000 (n - 1)) 1000 ir_bar_of [some (.d (tr L ps)), some (.d (T_ one)), some (.d (T_ other)), none, none, none, none, none] S)) fun v S' => S' = S ∧ ∃ d, v = .d d ∧ (isNone (.d d) = true ↔ same L ps one other) := by
    simp [ir_bar_of]
    rw [rngI_ok (by omega)]
    simp
    refine wp_rngN 0 L rfl rfl (by omega) (I := fun i env S' => S = S' ∧ (∀ a : Nat, a < i → one.count (a : Int) = other.count (a : Int)) ∧ ∃ v, env = [some (.d (tr L ps)), some (.d (T_ one)), some (.d (T_ other)), some (.d (.int L)), v, none, none, none]) ⟨rfl, by intro a h; omega, _, rfl⟩ ?_ ?_
    · rintro i env S' h0 hi ⟨rfl, ha, v, rfl⟩
      simp
      by_cases hc : (one.count (i : Int) : Int) = (other.count (i : Int) : Int)
      · simp [hc]
        intro a h
        rcases Nat.lt_or_ge a i with h' | h'
        · exact ha a h'
        · rw [show a = i by omega]; exact Int.ofNat.inj hc
      · simp [hc]
        intro hs
        exact hc (congrArg Int.ofNat (hs.1 i (by omega)))
    · rintro env S' ⟨rfl, ha, v, rfl⟩
      simp
      rw [rngI_ok (by omega)]
      simp only [wp_ok]
      refine wp_rngN 0 L rfl rfl (by omega) (I := fun i env S' => S = S' ∧ (∀ a b : Nat, a < i → a < b → b < L → may ps a b = false → only2 a b one = only2 a b other) ∧ ∃ v1 v2 v3 v4, env = [some (.d (tr L ps)), some (.d (T_ one)), some (.d (T_ other)), some (.d (.int L)), v1, v2, v3, v4]) ⟨rfl, by intro a b h; omega, _, _, _, _, rfl⟩ ?_ ?_
      · rintro i env S' h0 hi ⟨rfl, hb, v1, v2, v3, v4, rfl⟩
        simp
        rw [rngI_ok (by omega)]
        simp only [wp_ok]
        refine wp_rngN (i + 1) L (by omega) rfl (by omega) (I := fun j env S' => S = S' ∧ (∀ b : Nat, i < b → b < j → may ps i b = false → only2 i b one = only2 i b other) ∧ ∃ v1 v3 v4, env = [some (.d (tr L ps)), some (.d (T_ one)), some (.d (T_ other)), some (.d (.int L)), v1, some (.d (.int i)), v3, v4]) ⟨rfl, by intro b h; omega, _, _, _, rfl⟩ ?_ ?_
        · rintro j env S' hj0 hj ⟨rfl, hc, w1, w3, w4, rfl⟩
          simp [sp_may (show 1 ≤ n - 1 by omega)]
          by_cases hm : may ps i j = true
          · simp [hm]
            intro b hb1 hb2 hb3
            rcases Nat.lt_or_ge b j with h' | h'
            · exact hc b hb1 h' hb3
            · rw [show b = j by omega, hm] at hb3
              cases hb3
          · obtain ⟨v, e, hv, _⟩ := sp_first_unlike (n := n - 1) (S := S) (by omega) (count_only (a := (i : Int)) (b := (j : Int)) (by omega) (ha i (by omega)) (ha j (by omega)))
            simp only [Bool.not_eq_true] at hm
            simp [hm, sp_only (show 1 ≤ n - 1 by omega) h1, sp_only (show 1 ≤ n - 1 by omega) h2]
            rw [e]
            simp [hv]
            by_cases heq : only2 i j one = only2 i j other
            · simp [heq]
              intro b hb1 hb2 hb3
              rcases Nat.lt_or_ge b j with h' | h'
              · exact hc b hb1 h' hb3
              · rw [show b = j by omega]; exact heq
            · simp [heq]
              intro hs
              exact absurd (hs.2 i j (by omega) (by omega) hm) heq
        · rintro env S' ⟨rfl, hc, w1, w3, w4, rfl⟩
          refine ⟨rfl, ?_, _, _, _, _, rfl⟩
          intro a b h3 h4 h5 h6
          rcases Nat.lt_or_ge a i with h' | h'
          · exact hb a b h' h4 h5 h6
          · rw [show a = i by omega] at h4 h6 ⊢
            exact hc b h4 (by omega) h6
      · rintro env S' ⟨rfl, hb, v1, v2, v3, v4, rfl⟩
        simp
        exact ⟨ha, fun a b h3 h4 h5 => hb a b (by omega) h3 h4 h5⟩
  obtain ⟨v, S', e, rfl, d, rfl, h⟩ := wp_ex key
  exact ⟨d, e, h⟩
end
end Law

set_option Elab.async false
set_option linter.all false
set_option autoImplicit false
set_option maxRecDepth 100000
set_option maxHeartbeats 4000000
/-! What the laws' own search of all rows alike answers. -/
namespace Law
open PySem L2 Itp
/-! ### dicts of rows -/
abbrev kvD (kvs : List (List Int × Nat)) : List (D × D) := kvs.map fun q => (T_ q.1, .int (q.2 : Nat))
theorem eqv_T (a b : List Int) : PyData.eqv (T_ a) (T_ b) = decide (a = b) := eqv_of (pl_T a) (pl_T b) T_inj
theorem okK_T (r : List Int) : okK (T_ r) = true := by
  show (r.map PyData.int).all okK2 = true
  rw [List.all_map]
  exact List.all_eq_true.mpr fun _ _ => rfl
theorem dKey_T (kvs : List (List Int × Nat)) (r : List Int) : dKey (kvD kvs) (T_ r) = true := by
  unfold dKey
  rw [okK_T, Bool.true_and, List.all_map]
  exact List.all_eq_true.mpr fun _ _ => rfl
theorem look_T (kvs : List (List Int × Nat)) (r : List Int) : (lookD (kvD kvs) (T_ r)).isSome = decide (r ∈ kvs.map (·.1)) := by
  unfold lookD
  rw [Option.isSome_map, Bool.eq_iff_iff, List.find?_isSome, decide_eq_true_iff]
  constructor
  · rintro ⟨q, hq, e⟩
    obtain ⟨p, hp, rfl⟩ := List.mem_map.mp hq
    simp only [eqv_T, decide_eq_true_iff] at e
    exact e ▸ List.mem_map_of_mem hp
  · intro h
    obtain ⟨p, hp, rfl⟩ := List.mem_map.mp h
    exact ⟨_, List.mem_map_of_mem hp, by simp [eqv_T]⟩
theorem put_T {kvs : List (List Int × Nat)} {r : List Int} (h : r ∉ kvs.map (·.1)) (d : Nat) : putD (kvD kvs) (T_ r) (.int (d : Nat)) = kvD (kvs ++ [(r, d)]) := by
  unfold putD
  have : (kvD kvs).any (fun q => PyData.eqv q.1 (T_ r)) = false := by
    rw [List.any_eq_false]
    intro q hq e
    obtain ⟨p, hp, rfl⟩ := List.mem_map.mp hq
    simp only [eqv_T, decide_eq_true_iff] at e
    exact h (e ▸ List.mem_map_of_mem hp)
  rw [this]
  simp [kvD]
theorem isIn_dic {S : Sto} {n : Nat} {kvs : List (List Int × Nat)} (h : S[n]? = some (.dic (kvD kvs))) (r : List Int) : isIn S (.d (T_ r)) (.r n) = some (decide (r ∈ kvs.map (·.1))) := by
  show (match asLst S (.r n) with | some ys => inSeq (T_ r) ys | none => inDic S (T_ r) (.r n)) = _
  have e1 : asLst S (.r n) = none := by unfold asLst; simp [h]
  rw [e1]
  show inDic S (T_ r) (.r n) = _
  unfold inDic
  have e2 : dicOf S (.r n) = some (kvD kvs) := by unfold dicOf; simp [h]
  rw [e2]
  simp only [dKey_T, if_true, look_T]
theorem isIn_frz {S : Sto} {kvs : List (List Int × Nat)} (r : List Int) : isIn S (.d (T_ r)) (.d (.dict (kvD kvs))) = some (decide (r ∈ kvs.map (·.1))) := by
  show (match asLst S (.d (.dict (kvD kvs))) with | some ys => inSeq (T_ r) ys | none => inDic S (T_ r) (.d (.dict (kvD kvs)))) = _
  have e1 : asLst S (.d (.dict (kvD kvs))) = none := rfl
  rw [e1]
  show inDic S (T_ r) _ = _
  unfold inDic
  have e2 : dicOf S (.d (.dict (kvD kvs))) = some (kvD kvs) := by
    show (if noIns (kvD kvs) = true then some (kvD kvs) else none) = _
    rw [if_pos]
    cases kvs <;> rfl
  rw [e2]
  simp only [dKey_T, if_true, look_T]
theorem items_dic (kvs : List (List Int × Nat)) : itemsD (.d (.dict (kvD kvs))) = some ((kvs.map (·.1)).map T_) := by
  show (if noIns (kvD kvs) = true then some ((kvD kvs).map (·.1)) else none) = _
  rw [if_pos (by cases kvs <;> rfl)]
  simp [kvD]
theorem set_dic {S : Sto} {n : Nat} {kvs : List (List Int × Nat)} (h : S[n]? = some (.dic (kvD kvs))) {r : List Int} (hr : r ∉ kvs.map (·.1)) (hl : kvs.length < 95000) (d : Nat) {env : Ev} : setSub (.r n) (.d (T_ r)) (.d (.int (d : Nat))) env S = .ok env (S.set n (.dic (kvD (kvs ++ [(r, d)])))) := by
  unfold setSub
  simp only [h]
  rw [if_pos, put_T hr]
  rw [dKey_T, Bool.true_and]
  exact inLine_of (by simp [kvD]; omega)
/-! ### the store of the search -/
structure StC (S Z : Sto) (kvs : List (List Int × Nat)) (n5 : Nat) (later : List (List Int)) : Prop where
  lt : S.length < n5
  len : n5 < Z.length
  pre : Z.take S.length = S
  dic : Z[S.length]? = some (.dic (kvD kvs))
  lat : Z[n5]? = some (.lst (later.map T_))
theorem take_set_ge' {α : Type} {l : List α} {n k : Nat} {x : α} (h : n ≤ k) : (l.set k x).take n = l.take n := by
  rw [List.take_set, List.set_eq_of_length_le (by rw [List.length_take]; omega)]
theorem StC.add {S Z : Sto} {kvs : List (List Int × Nat)} {n5 : Nat} {later : List (List Int)} (h : StC S Z kvs n5 later) (kvs' : List (List Int × Nat)) (later' : List (List Int)) : StC S ((Z.set S.length (.dic (kvD kvs'))).set n5 (.lst (later'.map T_))) kvs' n5 later' := by
  have := h.lt
  have := h.len
  refine ⟨h.lt, by simpa using h.len, ?_, ?_, ?_⟩
  · rw [take_set_ge' (by omega), take_set_ge' (Nat.le_refl _)]; exact h.pre
  · rw [List.getElem?_set_ne (by omega), List.getElem?_set_self (by omega)]
  · rw [List.getElem?_set_self (by simp; omega)]
/-! ### the search, plain -/
def swapAt (r : List Int) (k : Nat) : List Int := r.take k ++ r.getD (k + 1) 0 :: r.getD k 0 :: r.drop (k + 2)
theorem chg_swap {ps : List (Int × Int)} {r : List Int} {k : Nat} (hk : k + 1 < r.length) (hm : may ps (r.getD k 0) (r.getD (k + 1) 0) = true) : Chg ps r (swapAt r k) := by
  have e1 : r.getD k 0 = r[k] := by simp [List.getD, show k < r.length by omega]
  have e2 : r.getD (k + 1) 0 = r[k + 1] := by simp [List.getD, hk]
  have hm' : may ps r[k] r[k + 1] = true := by rw [← e1, ← e2]; exact hm
  unfold swapAt
  rw [e1, e2]
  exact chg_at hk hm'
theorem chg_is {ps : List (Int × Int)} {r s : List Int} (h : Chg ps r s) : ∃ k, k + 1 < r.length ∧ may ps (r.getD k 0) (r.getD (k + 1) 0) = true ∧ s = swapAt r k := by
  obtain ⟨u, v, a, b, m⟩ := h
  refine ⟨u.length, by simp, by simpa using m, ?_⟩
  unfold swapAt
  simp
/-- the search at the turn t -/
structure Bfs (ps : List (Int × Int)) (r : List Int) (t : Nat) (kvs : List (List Int × Nat)) (level : List (List Int)) : Prop where
  nd : (kvs.map (·.1)).Nodup
  all : ∀ s d, (s, d) ∈ kvs ↔ Lev ps r d s ∧ d ≤ t
  lev : ∀ s, s ∈ level ↔ Lev ps r t s
/-- within a turn -/
structure Mid (ps : List (Int × Int)) (r : List Int) (t : Nat) (kvs : List (List Int × Nat)) (later : List (List Int)) : Prop where
  nd : ((kvs ++ later.map fun s => (s, t + 1)).map (·.1)).Nodup
  lev : ∀ s ∈ later, Lev ps r (t + 1) s
theorem keys_add (kvs : List (List Int × Nat)) (later : List (List Int)) (d : Nat) : (kvs ++ later.map fun s => (s, d)).map (·.1) = kvs.map (·.1) ++ later := by
  rw [List.map_append, List.map_map]
  congr 1
  exact List.map_id' later
theorem Mid.add {ps : List (Int × Int)} {r : List Int} {t : Nat} {kvs : List (List Int × Nat)} {level later : List (List Int)} (hb : Bfs ps r t kvs level) (h : Mid ps r t kvs later) {here new : List Int} (hh : here ∈ level) (hc : Chg ps here new) (hn : new ∉ kvs.map (·.1) ++ later) : Mid ps r t kvs (later ++ [new]) := by
  refine ⟨?_, ?_⟩
  · have := h.nd
    rw [keys_add] at this ⊢
    rw [← List.append_assoc, List.nodup_append]
    refine ⟨this, by simp, ?_⟩
    intro x hx y hy e
    simp at hy
    subst hy
    exact hn (e ▸ hx)
  · intro s hs
    rcases List.mem_append.mp hs with hs | hs
    · exact h.lev s hs
    · simp at hs
      subst hs
      have hst : Stp ps r (t + 1) s := .succ ((hb.lev here).mp hh).1 hc
      refine ⟨hst, fun m hm hs => ?_⟩
      obtain ⟨k, hk, hl⟩ := lev_of m hs
      have : (s, k) ∈ kvs := (hb.all s k).mpr ⟨hl, by omega⟩
      exact hn (List.mem_append_left _ (List.mem_map_of_mem this))
theorem Bfs.next {ps : List (Int × Int)} {r : List Int} {t : Nat} {kvs : List (List Int × Nat)} {level later : List (List Int)} (hb : Bfs ps r t kvs level) (h : Mid ps r t kvs later) (hc : ∀ here ∈ level, ∀ s, Chg ps here s → s ∈ kvs.map (·.1) ++ later) : Bfs ps r (t + 1) (kvs ++ later.map fun s => (s, t + 1)) later := by
  have key : ∀ s, Lev ps r (t + 1) s → s ∈ later := by
    intro s hs
    obtain ⟨u, hu, c⟩ := hs.pred
    rcases List.mem_append.mp (hc u ((hb.lev u).mpr hu) s c) with hm | hm
    · obtain ⟨⟨s', d⟩, hq, rfl⟩ := List.mem_map.mp hm
      obtain ⟨k1, k2⟩ := (hb.all s' d).mp hq
      have := k1.one hs
      omega
    · exact hm
  refine ⟨h.nd, fun s d => ?_, fun s => ⟨h.lev s, key s⟩⟩
  rw [List.mem_append, hb.all, List.mem_map]
  constructor
  · rintro (⟨h1, h2⟩ | ⟨s', hs', e⟩)
    · exact ⟨h1, by omega⟩
    · cases e
      exact ⟨h.lev s hs', Nat.le_refl _⟩
  · rintro ⟨h1, h2⟩
    by_cases hd : d ≤ t
    · exact .inl ⟨h1, hd⟩
    · obtain rfl : d = t + 1 := by omega
      exact .inr ⟨s, key s h1, rfl⟩
/-- what the search finds -/
structure Clas (ps : List (Int × Int)) (r : List Int) (kvs : List (List Int × Nat)) : Prop where
  nd : (kvs.map (·.1)).Nodup
  all : ∀ s d, (s, d) ∈ kvs ↔ Lev ps r d s
theorem Bfs.done {ps : List (Int × Int)} {r : List Int} {t : Nat} {kvs : List (List Int × Nat)} (hb : Bfs ps r t kvs []) : Clas ps r kvs := by
  refine ⟨hb.nd, fun s d => ⟨fun h => ((hb.all s d).mp h).1, fun h => (hb.all s d).mpr ⟨h, ?_⟩⟩⟩
  rcases Nat.lt_or_ge t d with c | c
  · exfalso
    obtain ⟨k, rfl⟩ : ∃ k, d = t + k := ⟨d - t, by omega⟩
    obtain ⟨u, hu⟩ := Lev.down k h
    have := (hb.lev u).mpr hu
    cases this
  · exact c
theorem Clas.mem {ps : List (Int × Int)} {r s : List Int} {kvs : List (List Int × Nat)} (h : Clas ps r kvs) : s ∈ kvs.map (·.1) ↔ Alk ps r s := by
  constructor
  · intro hs
    obtain ⟨⟨s', d⟩, hq, rfl⟩ := List.mem_map.mp hs
    exact ((h.all s' d).mp hq).1.alk
  · intro hs
    obtain ⟨n, hn⟩ := lev_alk hs
    exact List.mem_map.mpr ⟨(s, n), (h.all s n).mpr hn, rfl⟩
theorem Clas.len {ps : List (Int × Int)} {r : List Int} {kvs : List (List Int × Nat)} (h : Clas ps r kvs) (hr : Few r) : kvs.length ≤ 90000 := by
  have := rows_few (ps := ps) hr h.nd fun s hs => h.mem.mp hs
  simpa using this
end Law

set_option Elab.async false
set_option linter.all false
set_option autoImplicit false
set_option maxRecDepth 100000
set_option maxHeartbeats 4000000
/-! The run of the laws' own search. -/
namespace Law
open PySem L2 Itp
structure CMay (C : CallF) (ps : List (Int × Int)) : Prop where
  may : ∀ (S : Sto) (a b : Int), C F__law_may [.d (Pp ps), .d (.int a), .d (.int b)] S = .ok (.d (.bool (may ps a b))) S
theorem swap_cat {S : Sto} {r : List Int} {k : Nat} (hk : k + 1 < r.length) (hr : r.length ≤ 1000) :
    binD S .add (.d (.tuple (r.take k |>.map .int))) (.d (.tuple [.int (r.getD (k + 1) 0), .int (r.getD k 0)])) = some (.tuple ((r.take k ++ [r.getD (k + 1) 0, r.getD k 0]).map .int)) ∧
    binD S .add (.d (.tuple ((r.take k ++ [r.getD (k + 1) 0, r.getD k 0]).map .int))) (.d (.tuple ((r.drop (k + 2)).map .int))) = some (T_ (swapAt r k)) := by
  have h1 : (r.take k).length ≤ 1000 := by rw [List.length_take]; omega
  have h2 : (r.drop (k + 2)).length ≤ 1000 := by rw [List.length_drop]; omega
  constructor
  · rw [bin_catT (by simp; omega)]
    simp
  · rw [bin_catT (by simp only [List.length_map, List.length_append, List.length_cons, List.length_nil]; omega)]
    unfold swapAt
    simp
/-- one row of the level -/
theorem cls_row {C : CallF} {ps : List (Int × Int)} (hC : CMay C ps) {r : List Int} {t : Nat} {kvs : List (List Int × Nat)} {level : List (List Int)} (hb : Bfs ps r t kvs level) (hr : Few r) {S Z : Sto} {n5 : Nat} {later : List (List Int)} (hm : Mid ps r t kvs later) (hz : StC S Z (kvs ++ later.map fun s => (s, t + 1)) n5 later)
    {here : List Int} (hh : here ∈ level) {x1 x3 x7 x8 : Option Vl} {N B D : Ev → Sto → Prop} {R : Vl → Sto → Prop}
    (q : ∀ Z' later' x7 x8, Mid ps r t kvs later' → StC S Z' (kvs ++ later'.map fun s => (s, t + 1)) n5 later' → (∀ s ∈ later, s ∈ later') → (∀ s, Chg ps here s → s ∈ kvs.map (·.1) ++ later') → N [some (.d (Pp ps)), x1, some (.r S.length), x3, some (.d (.int ((t : Int) + 1))), some (.r n5), some (.d (T_ here)), x7, x8] Z') :
    wpS (execSs C 1000 [(.for_ (.var 7) (.rng1 (.bin .sub (.b1 .len (.var 6)) (.con (.int 1)))) [(.ite (.call F__law_may [(.var 0), (.sub (.var 6) (.var 7)), (.sub (.var 6) (.bin .add (.var 7) (.con (.int 1))))]) [(.asg (.var 8) (.bin .add (.bin .add (.slc (.var 6) none (some (.var 7))) (.tup [(.sub (.var 6) (.bin .add (.var 7) (.con (.int 1)))), (.sub (.var 6) (.var 7))])) (.slc (.var 6) (some (.bin .add (.var 7) (.con (.int 2)))) none))), (.ite (.cmp .notIn (.var 8) (.var 2)) [(.asg (.sub (.var 2) (.var 8)) (.var 4)), (.exp (.mth .append (.var 5) [(.var 8)]))] [])] [])])]
      [some (.d (Pp ps)), x1, some (.r S.length), x3, some (.d (.int ((t : Int) + 1))), some (.r n5), some (.d (T_ here)), x7, x8] Z) N B D R := by
  have hr9 := hr.len
  have hal : Alk ps r here := ((hb.lev here).mp hh).1.alk
  have hlen : here.length = r.length := hal.perm.length_eq.symm
  rw [execSs_cons, wpS_bind]
  simp
  rw [rngI_ok (by omega)]
  simp only [wp_ok]
  obtain ⟨I, hI⟩ := mkI fun (k : Nat) env Z' => ∃ later' x7 x8, Mid ps r t kvs later' ∧ StC S Z' (kvs ++ later'.map fun s => (s, t + 1)) n5 later' ∧ (∀ s ∈ later, s ∈ later') ∧ (∀ j, j < k → may ps (here.getD j 0) (here.getD (j + 1) 0) = true → swapAt here j ∈ kvs.map (·.1) ++ later') ∧ env = [some (.d (Pp ps)), x1, some (.r S.length), x3, some (.d (.int ((t : Int) + 1))), some (.r n5), some (.d (T_ here)), x7, x8]
  have step : ∀ (k : Nat) env Z', k + 1 < here.length → I k env Z' → wp (assignE C (.var 7) (.d (.int (k : Int))) env Z') fun env Z' => wpS (execSs C 1000 [(.ite (.call F__law_may [(.var 0), (.sub (.var 6) (.var 7)), (.sub (.var 6) (.bin .add (.var 7) (.con (.int 1))))]) [(.asg (.var 8) (.bin .add (.bin .add (.slc (.var 6) none (some (.var 7))) (.tup [(.sub (.var 6) (.bin .add (.var 7) (.con (.int 1)))), (.sub (.var 6) (.var 7))])) (.slc (.var 6) (some (.bin .add (.var 7) (.con (.int 2)))) none))), (.ite (.cmp .notIn (.var 8) (.var 2)) [(.asg (.sub (.var 2) (.var 8)) (.var 4)), (.exp (.mth .append (.var 5) [(.var 8)]))] [])] [])] env Z') (I (k + 1)) N (I (k + 1)) R := by
    intro k env Z' hk hh'
    obtain ⟨later', y7, y8, m1, z1, sub, cov, rfl⟩ := (hI _ _ _).mp hh'
    have a1 : atI (here.map PyData.int) (k : Int) = some (.int (here.getD k 0)) := by
      rw [atI_map, atI_nat (List.getElem?_eq_getElem (show k < here.length by omega))]
      simp [List.getD, show k < here.length by omega]
    have a2 : atI (here.map PyData.int) ((k : Int) + 1) = some (.int (here.getD (k + 1) 0)) := by
      rw [show ((k : Int) + 1) = ((k + 1 : Nat) : Int) by omega, atI_map, atI_nat (List.getElem?_eq_getElem hk)]
      simp [List.getD, hk]
    have keep : (may ps (here.getD k 0) (here.getD (k + 1) 0) = true → swapAt here k ∈ kvs.map (·.1) ++ later') → ∀ y8, I (k + 1) [some (.d (Pp ps)), x1, some (.r S.length), x3, some (.d (.int ((t : Int) + 1))), some (.r n5), some (.d (T_ here)), some (.d (.int k)), y8] Z' := by
      intro hs y8
      refine (hI _ _ _).mpr ⟨later', _, _, m1, z1, sub, fun j hj hm => ?_, rfl⟩
      by_cases e : j = k
      · subst e; exact hs hm
      · exact cov j (by omega) hm
    simp only [a_var, wp_ok, List.set_cons_succ, List.set_cons_zero, execSs_cons, execSs_nil, wpS_bind, x_ite, wpS_bindS, t_call_, v_call, vs_cons, vs_nil, v_sub, v_bin, v_con, v_var, List.getElem?_cons_succ, List.getElem?_cons_zero, bind_ok, subD_tuple, a1, a2, bin_add, ofO_some, hC.may, wp_bind, wp_ok, truth_b]
    cases hmay : may ps (here.getD k 0) (here.getD (k + 1) 0) with
    | false =>
      simp only [Bool.false_eq_true, if_false, wpS_nx]
      exact keep (fun z => by rw [hmay] at z; cases z) _
    | true =>
      obtain ⟨c1, c2⟩ := swap_cat (S := Z') hk (by omega)
      simp only [if_true, x_asg, v_bin, v_slc, p_none, p_some, v_var, v_tup, vs_cons, vs_nil, v_sub, v_con, List.getElem?_cons_succ, List.getElem?_cons_zero, bind_ok, slc_T, subD_tuple, a1, a2, bin_add, ofO_some, allDat_cons, allDat_nil, Option.map_some, List.length_cons, List.length_nil, inL2, cut_to, execSs_cons, execSs_nil, wpS_bind, wpS_bindS, wp_bind, wp_ok]
      rw [if_pos (show inLine (0 + 1 + 1) = true from rfl)]
      simp only [wp_ok]
      rw [← List.map_take, c1]
      simp only [ofO_some, bind_ok, wp_ok]
      rw [show ((k : Int) + 2) = ((k + 2 : Nat) : Int) by omega, cut_from, ← List.map_drop, c2]
      simp only [ofO_some, wp_ok, a_var, wpS_okS, wpS_nx, List.set_cons_succ, List.set_cons_zero, x_ite, t_cmp_, v_cmp, v_var, List.getElem?_cons_succ, List.getElem?_cons_zero, bind_ok, cmp_notIn, isIn_dic z1.dic, keys_add, Option.map_some, ofB_some, truth_b, wpS_bindS, wp_bind]
      by_cases hin : swapAt here k ∈ kvs.map (·.1) ++ later'
      · simp only [decide_eq_true hin, Bool.not_true, Bool.false_eq_true, if_false, execSs_nil, wpS_nx]
        exact keep (fun _ => hin) _
      · have hchg := chg_swap hk hmay
        have m2 := m1.add hb hh hchg hin
        have hll : (kvs ++ later'.map fun s => (s, t + 1)).length ≤ 90000 := by
          have := rows_few (ps := ps) (r := r) hr m1.nd fun s hs => by
            rw [keys_add] at hs
            rcases List.mem_append.mp hs with hs | hs
            · obtain ⟨⟨s', d⟩, hq, rfl⟩ := List.mem_map.mp hs
              exact ((hb.all s' d).mp hq).1.1.alk
            · exact (m1.lev s hs).1.alk
          simpa using this
        have hnk : swapAt here k ∉ (kvs ++ later'.map fun s => (s, t + 1)).map (·.1) := by rw [keys_add]; exact hin
        have hd := set_dic (env := [some (.d (Pp ps)), x1, some (.r S.length), x3, some (.d (.int ((t : Int) + 1))), some (.r n5), some (.d (T_ here)), some (.d (.int k)), some (.d (T_ (swapAt here k)))]) z1.dic hnk (by omega) (t + 1)
        rw [show (((t + 1 : Nat) : Int)) = (t : Int) + 1 by omega] at hd
        have hass : ∀ (e : Ev), assignE C (.sub (.var 2) (.var 8)) (.d (.int ((t : Int) + 1))) e Z' = ((evalE C (.var 2) e Z').bind fun x S => (evalE C (.var 8) e S).bind fun y S => setSub x y (.d (.int ((t : Int) + 1))) e S) := fun _ => rfl
        simp only [decide_eq_false hin, Bool.not_false, if_true, x_asg, v_var, List.getElem?_cons_succ, List.getElem?_cons_zero, bindS_ok, execSs_cons, execSs_nil, wpS_bind, wpS_bindS, wp_ok, hass, bind_ok, hd, okS_ok, wpS_okS, wpS_nx, x_exp, v_mth, vs_cons, vs_nil]
        have hlt := z1.lt
        have hl2 := z1.len
        have z2 : (Z'.set S.length (.dic (kvD ((kvs ++ later'.map fun s => (s, t + 1)) ++ [(swapAt here k, t + 1)]))))[n5]? = some (.lst (later'.map T_)) := by
          rw [List.getElem?_set_ne (by omega)]; exact z1.lat
        rw [if_pos (recv_app z2), mth_app z2 (by
          rw [List.length_map]
          rw [List.length_append, List.length_map] at hll
          omega)]
        simp only [wp_ok, wpS_nx]
        have e1 : (kvs ++ later'.map fun s => (s, t + 1)) ++ [(swapAt here k, t + 1)] = kvs ++ (later' ++ [swapAt here k]).map fun s => (s, t + 1) := by simp
        have e2 : later'.map T_ ++ [T_ (swapAt here k)] = (later' ++ [swapAt here k]).map T_ := by simp
        rw [e1, e2]
        refine (hI _ _ _).mpr ⟨later' ++ [swapAt here k], _, _, m2, z1.add _ _, fun s hs => List.mem_append_left _ (sub s hs), fun j hj hm => ?_, rfl⟩
        rw [← List.append_assoc]
        by_cases e : j = k
        · subst e; exact List.mem_append_right _ (by simp)
        · exact List.mem_append_left _ (cov j (by omega) hm)
  have fin : ∀ env Z', (∃ k, here.length ≤ k + 1 ∧ I k env Z') → N env Z' := by
    rintro env Z' ⟨k, hk, hh'⟩
    obtain ⟨later', y7, y8, m1, z1, sub, cov, rfl⟩ := (hI _ _ _).mp hh'
    refine q Z' later' _ _ m1 z1 sub fun s hs => ?_
    obtain ⟨j, hj, hm, rfl⟩ := chg_is hs
    exact cov j (by omega) hm
  have start : I 0 [some (.d (Pp ps)), x1, some (.r S.length), x3, some (.d (.int ((t : Int) + 1))), some (.r n5), some (.d (T_ here)), x7, x8] Z := (hI _ _ _).mpr ⟨later, _, _, hm, hz, fun s hs => hs, fun j hj => by omega, rfl⟩
  by_cases h0 : here.length = 0
  · have : rangeD 0 ((here.length : Int) - 1) = [] := by unfold rangeD; rw [h0]; rfl
    rw [this, for_nil]
    exact fin _ _ ⟨0, by omega, start⟩
  · refine wp_rngN 0 (here.length - 1) rfl (by omega) (by omega) I start (fun k env Z' _ hk h => ?_) fun env Z' h => fin _ _ ⟨_, by omega, h⟩
    exact wp_imp (step k env Z' (by omega) h) fun e S h => h
end Law

set_option Elab.async false
set_option linter.all false
set_option autoImplicit false
set_option maxRecDepth 100000
set_option maxHeartbeats 4000000
/-! The run of the laws' own search: the whole. -/
namespace Law
open PySem L2 Itp
theorem eqVl_rowsN {S : Sto} (a : List (List Int)) : eqVl S (.d (.list (a.map T_))) (.d (.list [])) = some (decide (a = [])) := eqVl_rows (S := S) a []
theorem cls_level {C : CallF} {ps : List (Int × Int)} (hC : CMay C ps) {r : List Int} {t : Nat} {kvs : List (List Int × Nat)} {level : List (List Int)} (hb : Bfs ps r t kvs level) (hr : Few r) {S Z : Sto} {n5 : Nat} (hz : StC S Z kvs n5 [])
    {x1 x6 x7 x8 : Option Vl} {N B D : Ev → Sto → Prop} {R : Vl → Sto → Prop}
    (q : ∀ Z' later x6 x7 x8, Mid ps r t kvs later → StC S Z' (kvs ++ later.map fun s => (s, t + 1)) n5 later → (∀ here ∈ level, ∀ s, Chg ps here s → s ∈ kvs.map (·.1) ++ later) → N [some (.d (Pp ps)), x1, some (.r S.length), some (.d (.list (level.map T_))), some (.d (.int ((t : Int) + 1))), some (.r n5), x6, x7, x8] Z') :
    wpS (execS C 1000 (.for_ (.var 6) (.var 3) [(.for_ (.var 7) (.rng1 (.bin .sub (.b1 .len (.var 6)) (.con (.int 1)))) [(.ite (.call F__law_may [(.var 0), (.sub (.var 6) (.var 7)), (.sub (.var 6) (.bin .add (.var 7) (.con (.int 1))))]) [(.asg (.var 8) (.bin .add (.bin .add (.slc (.var 6) none (some (.var 7))) (.tup [(.sub (.var 6) (.bin .add (.var 7) (.con (.int 1)))), (.sub (.var 6) (.var 7))])) (.slc (.var 6) (some (.bin .add (.var 7) (.con (.int 2)))) none))), (.ite (.cmp .notIn (.var 8) (.var 2)) [(.asg (.sub (.var 2) (.var 8)) (.var 4)), (.exp (.mth .append (.var 5) [(.var 8)]))] [])] [])])])
      [some (.d (Pp ps)), x1, some (.r S.length), some (.d (.list (level.map T_))), some (.d (.int ((t : Int) + 1))), some (.r n5), x6, x7, x8] Z) N B D R := by
  rw [x_for, wpS_bindS, i_var_, v_var]
  simp only [List.getElem?_cons_succ, List.getElem?_cons_zero, bind_ok, items_L, wp_ok]
  obtain ⟨I, hI⟩ := mkI fun (pre : List (List Int)) env Z' => ∃ later x6 x7 x8, Mid ps r t kvs later ∧ StC S Z' (kvs ++ later.map fun s => (s, t + 1)) n5 later ∧ (∀ here ∈ pre, ∀ s, Chg ps here s → s ∈ kvs.map (·.1) ++ later) ∧ env = [some (.d (Pp ps)), x1, some (.r S.length), some (.d (.list (level.map T_))), some (.d (.int ((t : Int) + 1))), some (.r n5), x6, x7, x8]
  refine wp_for I ((hI _ _ _).mpr ⟨[], _, _, _, ⟨by simpa using hb.nd, by simp⟩, by simpa using hz, by simp, rfl⟩) ?_ ?_
  · intro pre here post env Z' e h
    obtain ⟨later, y6, y7, y8, m1, z1, cov, rfl⟩ := (hI _ _ _).mp h
    have hh : here ∈ level := by rw [e]; simp
    rw [a_var, wp_ok]
    refine cls_row hC hb hr m1 z1 hh fun Z2 later2 w7 w8 m2 z2 sub c2 => ?_
    refine (hI _ _ _).mpr ⟨later2, _, _, _, m2, z2, fun h2 hh2 s hs => ?_, rfl⟩
    rcases List.mem_append.mp hh2 with hh2 | hh2
    · rcases List.mem_append.mp (cov h2 hh2 s hs) with k | k
      · exact List.mem_append_left _ k
      · exact List.mem_append_right _ (sub s k)
    · simp at hh2
      subst hh2
      exact c2 s hs
  · intro env Z' h
    obtain ⟨later, y6, y7, y8, m1, z1, cov, rfl⟩ := (hI _ _ _).mp h
    exact q Z' later _ _ _ m1 z1 cov
/-- ahead of a turn -/
structure StD (S Z : Sto) (kvs : List (List Int × Nat)) : Prop where
  len : S.length < Z.length
  pre : Z.take S.length = S
  dic : Z[S.length]? = some (.dic (kvD kvs))
theorem StD.new {S Z : Sto} {kvs : List (List Int × Nat)} (h : StD S Z kvs) : StC S (Z ++ [.lst []]) kvs Z.length [] :=
  ⟨h.len, by simp, by rw [List.take_append_of_le_length (by have := h.len; omega)]; exact h.pre, by rw [List.getElem?_append_left h.len]; exact h.dic, by simp⟩
theorem StC.end {S Z : Sto} {kvs : List (List Int × Nat)} {n5 : Nat} {later : List (List Int)} (h : StC S Z kvs n5 later) : StD S (Z.set n5 .dead) kvs := by
  have := h.lt
  have := h.len
  refine ⟨by simp; omega, ?_, ?_⟩
  · rw [take_set_ge' (by omega)]; exact h.pre
  · rw [List.getElem?_set_ne (by omega)]; exact h.dic
theorem cls_run {C : CallF} {ps : List (Int × Int)} (irr : ∀ a, may ps a a = false) (hC : CMay C ps) {r : List Int} (hr : Few r) {S : Sto} {Q : Vl → Sto → Prop} (q : ∀ kvs, Clas ps r kvs → Q (.d (.dict (kvD kvs))) S) :
    wp (endFn false S.length (execSs C 1000 ir__law_class [some (.d (Pp ps)), some (.d (T_ r)), none, none, none, none, none, none, none] S)) Q := by
  rw [wp_endF]
  unfold ir__law_class
  refine seq fun K hK => ?_
  have hpar : execS C 1000 (.par [2, 3, 4] [(.dn1 (.var 1) (.con (.int 0))), (.lst [(.var 1)]), (.con (.int 0))]) [some (.d (Pp ps)), some (.d (T_ r)), none, none, none, none, none, none, none] S = .nx [some (.d (Pp ps)), some (.d (T_ r)), some (.r S.length), some (.d (.list ([r].map T_))), some (.d (.int ((0 : Nat) : Int))), none, none, none, none] (S ++ [.dic (kvD [(r, 0)])]) := by
    have e1 : evalE C (.dn1 (.var 1) (.con (.int 0))) [some (.d (Pp ps)), some (.d (T_ r)), none, none, none, none, none, none, none] S = .ok (.r S.length) (S ++ [.dic (kvD [(r, 0)])]) := by
      have h1 : evalE C (.dn1 (.var 1) (.con (.int 0))) [some (.d (Pp ps)), some (.d (T_ r)), none, none, none, none, none, none, none] S = put1 S.length (.d (T_ r)) (.d (.int 0)) (S ++ [.dic []]) := rfl
      rw [h1]
      unfold put1
      simp only [get_last]
      rw [if_pos (by rw [okK_T]; rfl)]
      simp [kvD]
    simp only [x_par, vs_cons, vs_nil, e1, bind_ok]
    simp [setAll]
  rw [hpar, wpS_nx]
  apply hK
  refine seq fun K hK => ?_
  rw [x_whl]
  have bfs0 : Bfs ps r 0 [(r, 0)] [r] := by
    have l0 : ∀ s, Lev ps r 0 s ↔ s = r := fun s => ⟨fun h => by obtain ⟨h1, _⟩ := h; cases h1; rfl, fun h => by subst h; exact ⟨.zero, fun m hm => by omega⟩⟩
    refine ⟨by simp, fun s d => ?_, fun s => ?_⟩
    · simp
      rintro rfl
      exact (l0 s).symm
    · simp [l0]
  obtain ⟨I, hI⟩ := mkI fun (k : Nat) env Z => ∃ t kvs level, k + t = r.length * r.length + 2 ∧ t ≤ r.length * r.length + 1 ∧ Bfs ps r t kvs level ∧ StD S Z kvs ∧ ∃ v5 v6 v7 v8, env = [some (.d (Pp ps)), some (.d (T_ r)), some (.r S.length), some (.d (.list (level.map T_))), some (.d (.int (t : Nat))), v5, v6, v7, v8]
  have hsq : r.length * r.length ≤ 81 := Nat.le_trans (Nat.mul_le_mul hr.len hr.len) (by omega)
  refine wp_while I ?_ 1000 (r.length * r.length + 2) _ _ (by omega) ((hI _ _ _).mpr ⟨0, _, _, by omega, by omega, bfs0, ⟨by simp, by simp, by simp⟩, _, _, _, _, rfl⟩)
  intro k env Z h
  obtain ⟨t, kvs, level, hk, ht, hb, hz, v5, v6, v7, v8, rfl⟩ := (hI _ _ _).mp h
  rw [t_cmp_, v_cmp]
  simp only [v_var, List.getElem?_cons_succ, List.getElem?_cons_zero, bind_ok, v_lst, vs_nil, allDat_nil, List.length_nil, inL0, if_true, cmp_ne, eqVl_rowsN, Option.map_some, ofB_some, wp_bind, wp_ok, truth_b]
  by_cases hl : level = []
  · subst hl
    simp only [decide_true, Bool.not_true, Bool.false_eq_true, if_false]
    apply hK
    simp only [execSs_cons, execSs_nil, wpS_bind, x_fz, freeze, List.getElem?_cons_succ, List.getElem?_cons_zero, hz.dic, List.set_cons_succ, List.set_cons_zero, x_ret, v_var, bindS_ok, wpS_rt, isD_d]
    rw [take_set_ge' (Nat.le_refl _), hz.pre]
    exact q kvs hb.done
  · simp only [decide_eq_false hl, Bool.not_false, if_true]
    have htl : t ≤ r.length * r.length := by
      obtain ⟨s, l', rfl⟩ := List.exists_cons_of_ne_nil hl
      exact lev_few irr ((hb.lev s).mp List.mem_cons_self)
    refine seq fun K1 hK1 => ?_
    simp only [x_par, vs_cons, vs_nil, v_new, allDat_nil, List.length_nil, inL0, if_true, bind_ok, v_bin, v_var, v_con, List.getElem?_cons_succ, List.getElem?_cons_zero, bin_add, ofO_some, wpS_bindS, wp_ok, wp_bind, setAll, List.set_cons_succ, List.set_cons_zero, wpS_nx]
    apply hK1
    refine seq fun K2 hK2 => ?_
    refine cls_level hC hb hr hz.new fun Z2 later w6 w7 w8 m2 z2 cov => ?_
    apply hK2
    simp only [execSs_cons, execSs_nil, wpS_bind, x_fz, freeze, List.getElem?_cons_succ, List.getElem?_cons_zero, z2.lat, List.set_cons_succ, List.set_cons_zero, x_asg, v_var, bindS_ok, a_var, okS_ok, wpS_nx]
    refine ⟨k - 1, by omega, (hI _ _ _).mpr ⟨t + 1, _, later, by omega, by omega, hb.next m2 cov, z2.end, some (.d (.list (later.map T_))), w6, w7, w8, ?_⟩⟩
    rw [show (((t + 1 : Nat) : Int)) = (t : Int) + 1 by omega]
theorem sp_classF {n : Nat} {S : Sto} (hn : 2 ≤ n) {L : Int} {ps : List (Int × Int)} (hp : Prs L ps) {r : List Int} (hr : Few r) {Q : Vl → Sto → Prop} (q : ∀ kvs, Clas ps r kvs → Q (.d (.dict (kvD kvs))) S) : wp (runFn G 1000 n F__law_class [.d (Pp ps), .d (T_ r)] S) Q := by
  rw [en__law_class (by omega)]
  exact cls_run (fun a => may_self hp a) ⟨fun S a b => sp_law_may (by omega) hp⟩ hr q
theorem sp_class {n : Nat} {S : Sto} (hn : 2 ≤ n) {L : Int} {ps : List (Int × Int)} (hp : Prs L ps) {r : List Int} (hr : r.length ≤ 8) {Q : Vl → Sto → Prop} (q : ∀ kvs, Clas ps r kvs → Q (.d (.dict (kvD kvs))) S) : wp (runFn G 1000 n F__law_class [.d (Pp ps), .d (T_ r)] S) Q := sp_classF hn hp (few8 hr) q
theorem cls_keysF {ps : List (Int × Int)} {r : List Int} {kvs : List (List Int × Nat)} (h : Clas ps r kvs) (hr : Few r) : (kvs.map (·.1)).length ≤ 90000 := by
  have := h.len hr
  rw [List.length_map]
  omega
theorem cls_keys {ps : List (Int × Int)} {r : List Int} {kvs : List (List Int × Nat)} (h : Clas ps r kvs) (hr : r.length ≤ 8) : (kvs.map (·.1)).length ≤ 90000 := cls_keysF h (few8 hr)
end Law

set_option Elab.async false
set_option linter.all false
set_option autoImplicit false
set_option maxRecDepth 100000
set_option maxHeartbeats 4000000
/-! Plain: powers of words, of rows; the greatest root. -/
namespace Law
def pw {α : Type} (u : List α) (m : Nat) : List α := (List.replicate m u).flatten
section
variable {α : Type}
@[simp] theorem pw_zero (u : List α) : pw u 0 = [] := rfl
theorem pw_succ (u : List α) (m : Nat) : pw u (m + 1) = u ++ pw u m := by simp [pw, List.replicate_succ]
@[simp] theorem pw_one (u : List α) : pw u 1 = u := by rw [pw_succ]; simp
theorem pw_add (u : List α) (m k : Nat) : pw u (m + k) = pw u m ++ pw u k := by
  unfold pw
  rw [← List.replicate_append_replicate, List.flatten_append]
theorem pw_mul (u : List α) (m k : Nat) : pw u (m * k) = pw (pw u m) k := by
  induction k with
  | zero => rfl
  | succ k ih => rw [Nat.mul_succ, Nat.add_comm, pw_add, pw_succ, ih]
theorem pw_len (u : List α) (m : Nat) : (pw u m).length = m * u.length := by
  induction m with
  | zero => simp
  | succ m ih => rw [pw_succ, List.length_append, ih, Nat.succ_mul]; omega
@[simp] theorem pw_nil (m : Nat) : pw ([] : List α) m = [] := by
  induction m with
  | zero => rfl
  | succ m ih => rw [pw_succ, ih]; rfl
theorem pw_filter (p : α → Bool) (u : List α) (m : Nat) : (pw u m).filter p = pw (u.filter p) m := by
  induction m with
  | zero => rfl
  | succ m ih => rw [pw_succ, pw_succ, List.filter_append, ih]
theorem pw_comm (u : List α) (m : Nat) : u ++ pw u m = pw u m ++ u := by
  have h1 := pw_add u 1 m
  have h2 := pw_add u m 1
  rw [pw_one] at h1 h2
  rw [← h1, ← h2, Nat.add_comm]
/-- words that commute are powers of one -/
theorem comm_root : ∀ (n : Nat) (x y : List α), x.length + y.length ≤ n → x ++ y = y ++ x → ∃ w i j, x = pw w i ∧ y = pw w j
  | 0, x, y, h, _ => by
    have hx : x = [] := List.length_eq_zero_iff.mp (by omega)
    have hy : y = [] := List.length_eq_zero_iff.mp (by omega)
    exact ⟨[], 0, 0, hx, hy⟩
  | n + 1, x, y, h, e => by
    by_cases hx : x = []
    · exact ⟨y, 0, 1, hx, (pw_one y).symm⟩
    · by_cases hy : y = []
      · exact ⟨x, 1, 0, (pw_one x).symm, hy⟩
      · have hxl := List.length_pos_iff.mpr hx
        have hyl := List.length_pos_iff.mpr hy
        rcases Nat.le_total x.length y.length with c | c
        · obtain ⟨y', rfl⟩ : ∃ y', y = x ++ y' := by
            have : x = y.take x.length := by
              have h1 := congrArg (List.take x.length) e
              rw [List.take_left' rfl, List.take_append_of_le_length c] at h1
              exact h1
            exact ⟨y.drop x.length, by conv => lhs; rw [← List.take_append_drop x.length y, ← this]⟩
          rw [List.append_assoc] at e
          have e2 := List.append_cancel_left e
          rw [List.length_append] at h
          obtain ⟨w, i, j, h1, h2⟩ := comm_root n x y' (by omega) e2
          exact ⟨w, i, i + j, h1, by rw [pw_add, ← h1, ← h2]⟩
        · obtain ⟨x', rfl⟩ : ∃ x', x = y ++ x' := by
            have : y = x.take y.length := by
              have h1 := congrArg (List.take y.length) e
              rw [List.take_left' rfl, List.take_append_of_le_length c] at h1
              exact h1.symm
            exact ⟨x.drop y.length, by conv => lhs; rw [← List.take_append_drop y.length x, ← this]⟩
          rw [List.append_assoc] at e
          have e2 := List.append_cancel_left e
          rw [List.length_append] at h
          obtain ⟨w, i, j, h1, h2⟩ := comm_root n x' y (by omega) e2
          exact ⟨w, j + i, j, by rw [pw_add, ← h1, ← h2], h2⟩
theorem pref_eq {x y z : List α} (hx : x ++ z = z ++ x) (hl : x.length ≤ z.length) (hxy : x.length = y.length) (hy : y ++ z = z ++ y) : x = y := by
  have h1 := congrArg (List.take x.length) hx
  rw [List.take_left' rfl, List.take_append_of_le_length hl] at h1
  have h2 := congrArg (List.take y.length) hy
  rw [List.take_left' rfl, List.take_append_of_le_length (by omega)] at h2
  rw [h1, h2, hxy]
/-- words of which powers agree commute -/
theorem pow_comm {x y : List α} {k j : Nat} (hk : 0 < k) (hj : 0 < j) (e : pw x k = pw y j) : x ++ y = y ++ x := by
  by_cases k1 : k = 1
  · subst k1
    rw [pw_one] at e
    rw [e, ← pw_comm]
  · by_cases j1 : j = 1
    · subst j1
      rw [pw_one] at e
      rw [← e, pw_comm]
    · have c1 : x ++ pw x k = pw x k ++ x := pw_comm x k
      have c2 : y ++ pw x k = pw x k ++ y := by rw [e]; exact pw_comm y j
      have l1 := pw_len x k
      have l2 := pw_len y j
      rw [e] at l1
      have b1 : 2 * x.length ≤ k * x.length := Nat.mul_le_mul_right _ (by omega)
      have b2 : 2 * y.length ≤ j * y.length := Nat.mul_le_mul_right _ (by omega)
      refine pref_eq (z := pw x k) ?_ ?_ (by simp; omega) ?_
      · rw [List.append_assoc, c2, ← List.append_assoc, c1, List.append_assoc]
      · rw [List.length_append, pw_len]; rw [l2] at l1; omega
      · rw [List.append_assoc, c1, ← List.append_assoc, c2, List.append_assoc]
theorem pw_cancel {x y : List α} {d : Nat} (hd : 0 < d) (e : pw x d = pw y d) : x = y := by
  have l := congrArg List.length e
  rw [pw_len, pw_len] at l
  have hl : x.length = y.length := Nat.eq_of_mul_eq_mul_left hd l
  obtain ⟨m, rfl⟩ : ∃ m, d = m + 1 := ⟨d - 1, by omega⟩
  rw [pw_succ, pw_succ] at e
  exact List.append_inj_left e hl
/-- coprime powers that agree -/
theorem pow_root {x y : List α} {k j : Nat} (hk : 0 < k) (hj : 0 < j) (hc : Nat.Coprime k j) (e : pw x k = pw y j) : ∃ w, x = pw w j ∧ y = pw w k := by
  obtain ⟨w, a, b, rfl, rfl⟩ := comm_root _ x y (Nat.le_refl _) (pow_comm hk hj e)
  by_cases hw : w = []
  · subst hw
    exact ⟨[], by simp, by simp⟩
  · have hwl := List.length_pos_iff.mpr hw
    rw [← pw_mul, ← pw_mul] at e
    have l := congrArg List.length e
    rw [pw_len, pw_len] at l
    have l : a * k = b * j := Nat.eq_of_mul_eq_mul_right hwl l
    have d1 : j ∣ a := (Nat.Coprime.dvd_of_dvd_mul_right hc.symm ⟨b, by rw [l, Nat.mul_comm]⟩)
    obtain ⟨c, rfl⟩ := d1
    have : b = k * c := by
      have : j * (c * k) = j * b := by rw [← Nat.mul_assoc, l, Nat.mul_comm]
      have := Nat.eq_of_mul_eq_mul_left hj this
      rw [← this, Nat.mul_comm]
    subst this
    exact ⟨pw w c, by rw [← pw_mul, Nat.mul_comm], by rw [← pw_mul, Nat.mul_comm]⟩
end
theorem pw_only (a b : Int) (u : List Int) (m : Nat) : only2 a b (pw u m) = pw (only2 a b u) m := pw_filter _ u m
theorem pw_count (a : Int) (u : List Int) (m : Nat) : (pw u m).count a = m * u.count a := by
  induction m with
  | zero => simp
  | succ m ih => rw [pw_succ, List.count_append, ih, Nat.succ_mul]; omega
/-! ### the first ones of each letter -/
def fpG (c : Int → Nat) : List Int → List Int → List Int
  | _, [] => []
  | pre, x :: r => if pre.count x < c x then x :: fpG c (pre ++ [x]) r else fpG c (pre ++ [x]) r
theorem fpG_cons (c : Int → Nat) (pre r : List Int) (x : Int) : fpG c pre (x :: r) = if pre.count x < c x then x :: fpG c (pre ++ [x]) r else fpG c (pre ++ [x]) r := rfl
theorem fpG_filter (c : Int → Nat) (p : Int → Bool) : ∀ (r pre : List Int), (fpG c pre r).filter p = fpG c (pre.filter p) (r.filter p)
  | [], pre => rfl
  | x :: r, pre => by
    have ih := fpG_filter c p r (pre ++ [x])
    have hc : p x = true → (pre.filter p).count x = pre.count x := fun h => List.count_filter h
    rw [fpG_cons]
    cases hp : p x with
    | true =>
      have e1 : (pre ++ [x]).filter p = pre.filter p ++ [x] := by simp [hp]
      rw [e1] at ih
      rw [List.filter_cons, if_pos hp]
      show _ = if (pre.filter p).count x < c x then x :: fpG c (pre.filter p ++ [x]) (r.filter p) else fpG c (pre.filter p ++ [x]) (r.filter p)
      rw [hc hp]
      split
      · rw [List.filter_cons, if_pos hp, ih]
      · exact ih
    | false =>
      have e1 : (pre ++ [x]).filter p = pre.filter p := by simp [hp]
      rw [e1] at ih
      have e2 : (x :: r).filter p = r.filter p := by rw [List.filter_cons, if_neg (by rw [hp]; exact Bool.false_ne_true)]
      rw [e2, ← ih]
      split
      · rw [List.filter_cons, if_neg (by rw [hp]; exact Bool.false_ne_true)]
      · rfl
theorem fpG_none (c : Int → Nat) : ∀ (r pre : List Int), (∀ x ∈ r, c x ≤ pre.count x) → fpG c pre r = []
  | [], _, _ => rfl
  | x :: r, pre, h => by
    rw [fpG_cons, if_neg (by have := h x List.mem_cons_self; omega)]
    refine fpG_none c r _ fun y hy => ?_
    have := h y (List.mem_cons_of_mem _ hy)
    rw [List.count_append]
    omega
theorem fpG_all (c : Int → Nat) : ∀ (w pre v : List Int), (∀ x ∈ w, pre.count x + w.count x ≤ c x) → fpG c pre (w ++ v) = w ++ fpG c (pre ++ w) v
  | [], pre, v, _ => by simp
  | x :: w, pre, v, h => by
    rw [List.cons_append, fpG_cons]
    have hx := h x List.mem_cons_self
    rw [List.count_cons_self] at hx
    rw [if_pos (by omega), fpG_all c w (pre ++ [x]) v]
    · simp
    · intro y hy
      have := h y (List.mem_cons_of_mem _ hy)
      rw [List.count_cons] at this
      rw [List.count_append, List.count_singleton]
      have e : (x == y) = (y == x) := by
        rw [Bool.eq_iff_iff, beq_iff_eq, beq_iff_eq]; exact eq_comm
      simp only [beq_iff_eq] at this ⊢
      split <;> split at this <;> first | omega | (rename_i a b; exact absurd a.symm b) | (rename_i a b; exact absurd b.symm a)
def fpR (r : List Int) (m : Nat) : List Int := fpG (fun x => r.count x / m) [] r
section
variable {ps : List (Int × Int)} (irr : ∀ a, may ps a a = false)
include irr
/-- a row that is a power: its first part is the root -/
theorem fp_root {r t : List Int} {m : Nat} (hm : 0 < m) (h : Alk ps r (pw t m)) : (∀ a, r.count a % m = 0) ∧ Alk ps (fpR r m) t := by
  have hc : ∀ a, r.count a = m * t.count a := fun a => by rw [h.perm.count_eq a, pw_count]
  refine ⟨fun a => by rw [hc]; exact Nat.mul_mod_right m _, alk_of irr fun a b hab => ?_⟩
  have h1 := alk_only irr h hab
  rw [pw_only] at h1
  unfold fpR
  have e1 : only2 a b (fpG (fun x => r.count x / m) [] r) = fpG (fun x => r.count x / m) [] (only2 a b r) := fpG_filter _ _ r []
  rw [e1, h1]
  obtain ⟨k, rfl⟩ : ∃ k, m = k + 1 := ⟨m - 1, by omega⟩
  have hcw : ∀ x, x ∈ only2 a b t → (only2 a b t).count x = t.count x := fun x hx => by
    unfold only2 at hx ⊢
    exact List.count_filter (List.mem_filter.mp hx).2
  have hdiv : ∀ x, r.count x / (k + 1) = t.count x := fun x => by rw [hc, Nat.mul_div_cancel_left _ (by omega)]
  rw [pw_succ, fpG_all]
  · rw [List.nil_append, fpG_none, List.append_nil]
    intro x hx
    have hx' : x ∈ only2 a b t := by
      unfold pw at hx
      obtain ⟨l, hl, hxl⟩ := List.mem_flatten.mp hx
      rw [(List.mem_replicate.mp hl).2] at hxl
      exact hxl
    rw [hdiv, hcw x hx']
    exact Nat.le_refl _
  · intro x hx
    rw [hdiv, hcw x hx]
    simp
theorem pw_alk {u v : List Int} (h : Alk ps u v) (m : Nat) : Alk ps (pw u m) (pw v m) := by
  induction m with
  | zero => exact .refl _
  | succ m ih => rw [pw_succ, pw_succ]; exact alk_app irr h ih
/-- the greatest root -/
structure IsRoot (ps : List (Int × Int)) (r t : List Int) (m : Nat) : Prop where
  pos : 0 < m
  ok : Alk ps r (pw t m)
  most : ∀ k u, Alk ps r (pw u k) → k ≤ m
theorem root_uniq {r s t t' : List Int} {m m' : Nat} (h : IsRoot ps r t m) (k : IsRoot ps s t' m') (e : Alk ps r s) : m = m' ∧ Alk ps t t' := by
  have h1 := k.most m t (e.symm.trans h.ok)
  have h2 := h.most m' t' (e.trans k.ok)
  have hm : m = m' := by omega
  subst hm
  refine ⟨rfl, ?_⟩
  have a1 := (fp_root irr h.pos h.ok).2
  have a2 := (fp_root irr h.pos (e.trans k.ok)).2
  exact a1.symm.trans a2
/-- the root of a power -/
theorem root_pow {u t : List Int} {m k : Nat} (hu : u ≠ []) (hk : 0 < k) (h : IsRoot ps u t m) : IsRoot ps (pw u k) t (m * k) := by
  refine ⟨Nat.mul_pos h.pos hk, ?_, fun j v hv => ?_⟩
  · rw [pw_mul]
    exact pw_alk irr h.ok k
  · by_cases hj : j = 0
    · omega
    have hj : 0 < j := by omega
    -- the common divisor
    obtain ⟨k', hk'⟩ := Nat.gcd_dvd_left k j
    obtain ⟨j', hj'⟩ := Nat.gcd_dvd_right k j
    have hd : 0 < Nat.gcd k j := Nat.gcd_pos_of_pos_left _ hk
    generalize hD : Nat.gcd k j = d at hk' hj' hd
    have k'0 : 0 < k' := Nat.pos_of_ne_zero fun e => by rw [e] at hk'; omega
    have j'0 : 0 < j' := Nat.pos_of_ne_zero fun e => by rw [e] at hj'; omega
    have hcop : Nat.Coprime k' j' := by
      have h1 : Nat.gcd (d * k') (d * j') = d := by rw [← hk', ← hj']; exact hD
      rw [Nat.gcd_mul_left] at h1
      have : d * Nat.gcd k' j' = d * 1 := by rw [h1, Nat.mul_one]
      exact Nat.eq_of_mul_eq_mul_left hd this
    have key : ∀ a b, may ps a b = false → ∃ w, only2 a b u = pw w j' ∧ only2 a b v = pw w k' := by
      intro a b hab
      have h1 := alk_only irr hv hab
      rw [pw_only, pw_only, hk', hj', Nat.mul_comm d k', Nat.mul_comm d j', pw_mul, pw_mul] at h1
      exact pow_root k'0 j'0 hcop (pw_cancel hd h1)
    have hcu : ∀ a, ∃ c, u.count a = j' * c := by
      intro a
      obtain ⟨w, h1, _⟩ := key a a (irr a)
      refine ⟨w.count a, ?_⟩
      have h2 : (only2 a a u).count a = u.count a := by rw [only_same]; simp
      rw [← h2, h1, pw_count]
    have hroot : Alk ps u (pw (fpR u j') j') := by
      refine alk_of irr fun a b hab => ?_
      obtain ⟨w, h1, _⟩ := key a b hab
      rw [pw_only]
      have e1 : only2 a b (fpR u j') = fpG (fun x => u.count x / j') [] (only2 a b u) := fpG_filter _ _ u []
      rw [e1, h1]
      have hcw : ∀ x, x ∈ w → u.count x = j' * w.count x := fun x hx => by
        have hx2 : x ∈ only2 a b u := by
          rw [h1]
          obtain ⟨i, hi⟩ : ∃ i, j' = i + 1 := ⟨j' - 1, by omega⟩
          rw [hi, pw_succ]
          exact List.mem_append_left _ hx
        have h2 : (only2 a b u).count x = u.count x := by
          unfold only2 at hx2 ⊢
          exact List.count_filter (List.mem_filter.mp hx2).2
        rw [← h2, h1, pw_count]
      have e2 : fpG (fun x => u.count x / j') [] (pw w j') = w := by
        obtain ⟨i, hi⟩ : ∃ i, j' = i + 1 := ⟨j' - 1, by omega⟩
        have hd2 : ∀ x ∈ w, u.count x / j' = w.count x := fun x hx => by rw [hcw x hx, Nat.mul_div_cancel_left _ j'0]
        conv => lhs; rw [hi, pw_succ]
        rw [← hi, fpG_all]
        · rw [List.nil_append, fpG_none, List.append_nil]
          intro x hx
          have hx' : x ∈ w := by
            unfold pw at hx
            obtain ⟨l, hl, hxl⟩ := List.mem_flatten.mp hx
            rw [(List.mem_replicate.mp hl).2] at hxl
            exact hxl
          rw [hd2 x hx']
          exact Nat.le_refl _
        · intro x hx
          rw [hd2 x hx]
          simp
      rw [e2]
    have hle := h.most j' _ hroot
    rw [hj', hk']
    calc d * j' ≤ d * m := Nat.mul_le_mul_left d hle
      _ ≤ m * (d * k') := by
        rw [Nat.mul_comm d m]
        exact Nat.mul_le_mul_left m (Nat.le_mul_of_pos_right d k'0)
end
end Law

set_option Elab.async false
set_option linter.all false
set_option autoImplicit false
set_option maxRecDepth 100000
set_option maxHeartbeats 4000000
/-! Law k16: the lots of letters that hang together. -/
namespace Law
open PySem L2 Itp
section
variable {n : Nat} {S : Sto}
theorem sp_only_in (hn : 1 ≤ n) {r g : List Int} (hr : r.length ≤ 50000) : runFn G 1000 n F_only [.d (T_ r), .d (L_ g)] S = .ok (.d (L_ (r.filter fun x => decide (x ∈ g)))) S := by
  rw [en_only (by omega)]
  simp [ir_only]
  rw [lc_map (g := PyData.int) (p := fun x => decide (x ∈ g))]
  · simp
  · intro x hx acc
    simp [lcStep_eq, wipeE]
    split <;> rfl
  · omega
/-! ### the program's lots -/
def hang (ps : List (Int × Int)) (x : Int) (g : List Int) : Bool := g.any fun y => !may ps y x
def addG (ps : List (Int × Int)) (found : List (List Int)) (x : Int) : List (List Int) := found.filter (fun g => !hang ps x g) ++ [x :: (found.filter (hang ps x)).flatten]
def grpR (ps : List (Int × Int)) (ls : List Int) : List (List Int) := ls.foldl (addG ps) []
theorem srtU_len : ∀ l : List Int, (srtU l).length ≤ l.length
  | [] => Nat.le_refl _
  | x :: r => by
    have ins : ∀ l : List Int, (insU x l).length ≤ l.length + 1 := by
      intro l
      induction l with
      | nil => simp [insU]
      | cons y l ih =>
        unfold insU
        split
        · simp
        · split
          · simp
          · simp; omega
    have := srtU_len r
    have := ins (srtU r)
    show (insU x (srtU r)).length ≤ _
    simp
    omega
theorem sorted_set {r : List Int} (h : r.length < 64) : b1D S .sortedSet (.d (T_ r)) = some (L_ (srtU r)) := by
  show (if (allInts (r.map PyData.int) && Nat.blt (r.map PyData.int).length 64) = true then some (PyData.list ((srtU (intsOf (r.map PyData.int))).map .int)) else none) = _
  rw [allI_map, intsOf_map, List.length_map, Nat.blt_eq.mpr h]
  rfl
theorem addG_flat (ps : List (Int × Int)) (x : Int) (found : List (List Int)) : ((addG ps found x).flatten).length = found.flatten.length + 1 := by
  unfold addG
  rw [List.flatten_append]
  simp
  have : ∀ found : List (List Int), ((found.filter fun g => !hang ps x g).flatten).length + ((found.filter (hang ps x)).flatten).length = found.flatten.length := by
    intro found
    induction found with
    | nil => rfl
    | cons g r ih =>
      rw [List.filter_cons, List.filter_cons]
      cases hang ps x g <;> simp at ih ⊢ <;> omega
  have := this found
  simp at this
  omega
theorem addG_len (ps : List (Int × Int)) (x : Int) (found : List (List Int)) : (addG ps found x).length ≤ found.length + 1 := by
  unfold addG
  have := List.length_filter_le (fun g => !hang ps x g) found
  simp
  omega
theorem sp_groups_of (hn : 2 ≤ n) {L : Int} {ps : List (Int × Int)} {r : List Int} (hr : r.length < 64) : runFn G 1000 n F_groups_of [.d (tr L ps), .d (T_ r)] S = .ok (.d (.list ((grpR ps (srtU r)).map L_))) S := by
  rw [en_groups_of (by omega)]
  apply wp_eq
  simp [ir_groups_of, sorted_set hr]
  have hsl := srtU_len r
  obtain ⟨I, hI⟩ := mkI fun (pre : List Int) env S' => ∃ ds found, S' = S ++ ds ∧ found = grpR ps pre ∧ found.flatten.length = pre.length ∧ found.length ≤ pre.length ∧ ∃ v3 v4 v5 v6 v7, env = [some (.d (tr L ps)), some (.d (T_ r)), some (.d (.list (found.map L_))), v3, v4, v5, v6, v7]
  refine wp_for I ((hI _ _ _).mpr ⟨[], [], by simp, rfl, rfl, Nat.le_refl _, _, _, _, _, _, rfl⟩) ?_ ?_
  · intro pre x post env S' e h
    obtain ⟨ds, found, hS', hfd, hfl, hfn, v3, v4, v5, v6, v7, rfl⟩ := (hI _ _ _).mp h
    have hpl : pre.length < 64 := by
      have := congrArg List.length e
      simp at this
      omega
    have fin : ∀ (S2 : Sto) (own : List Int) (v4 v5 v6 v7 : Option Vl), S2 = S' ++ [.dead, .dead] → I (pre ++ [x]) [some (.d (tr L ps)), some (.d (T_ r)), some (.d (.list ((addG ps found x).map L_))), some (.d (.int x)), v4, v5, v6, v7] S2 := by
      intro S2 own v4 v5 v6 v7 hS2
      refine (hI _ _ _).mpr ⟨ds ++ [.dead, .dead], addG ps found x, by rw [hS2, hS', List.append_assoc], ?_, ?_, ?_, _, _, _, _, _, rfl⟩
      · unfold grpR at hfd ⊢
        rw [List.foldl_append, ← hfd]
        rfl
      · rw [addG_flat, hfl]; simp
      · have := addG_len ps x found
        simp
        omega
    clear hS' hI h
    simp
    obtain ⟨J, hJ⟩ := mkI fun (pg : List (List Int)) env S2 => S2 = S' ++ [.lst ((x :: (pg.filter (hang ps x)).flatten).map .int), .lst ((pg.filter fun g => !hang ps x g).map L_)] ∧ ∃ v6 v7, env = [some (.d (tr L ps)), some (.d (T_ r)), some (.d (.list (found.map L_))), some (.d (.int x)), some (.r S'.length), some (.r (S'.length + 1)), v6, v7]
    refine wp_for J ((hJ _ _ _).mpr ⟨rfl, _, _, rfl⟩) ?_ ?_
    · intro pg g postg env S2 eg h
      obtain ⟨rfl, v6, v7, rfl⟩ := (hJ _ _ _).mp h
      have hlen := congrArg (fun l : List (List Int) => l.flatten.length) eg
      simp at hlen
      have hfl' := hfl
      simp at hfl'
      have hpgl := congrArg List.length eg
      simp at hpgl
      have hflat : ∀ (l : List (List Int)) (p : List Int → Bool), (l.filter p).flatten.length ≤ l.flatten.length := by
        intro l p
        induction l with
        | nil => simp
        | cons a l ih =>
          rw [List.filter_cons]
          split
          · rw [List.flatten_cons, List.flatten_cons, List.length_append, List.length_append]; omega
          · rw [List.flatten_cons, List.length_append]; omega
      have hown := hflat pg (hang ps x)
      have hoth := List.length_filter_le (fun g => !hang ps x g) pg
      simp
      rw [lc_map (g := PyData.int) (p := fun y => !may ps y x)]
      · have hcond : hang ps x g = true ↔ ∃ z, z ∈ g ∧ may ps z x = false := by
          unfold hang
          simp [List.any_eq_true]
        simp
        by_cases hq : ∃ z, z ∈ g ∧ may ps z x = false
        · have hh := hcond.mpr hq
          rw [if_pos hq]
          refine ⟨recv_ext (ds := (x :: (pg.filter (hang ps x)).flatten).map .int) (by simp), ?_⟩
          rw [mth_ext (ds := (x :: (pg.filter (hang ps x)).flatten).map .int) (by simp) (by rw [List.length_map, List.length_map, List.length_cons]; simp at hown ⊢; omega)]
          refine (hJ _ _ _).mpr ⟨?_, _, _, rfl⟩
          rw [List.filter_append, List.filter_append, List.filter_cons, List.filter_cons]
          simp [hh]
        · have hh : hang ps x g = false := by
            rw [Bool.eq_false_iff]
            exact fun z => hq (hcond.mp z)
          rw [if_neg hq]
          refine ⟨recv_app (ds := (pg.filter fun g => !hang ps x g).map L_) (by simp), ?_⟩
          rw [mth_app (ds := (pg.filter fun g => !hang ps x g).map L_) (by simp) (by rw [List.length_map]; omega)]
          refine (hJ _ _ _).mpr ⟨?_, _, _, rfl⟩
          rw [List.filter_append, List.filter_append, List.filter_cons, List.filter_cons]
          simp [hh]
      · intro y hy acc
        simp [lcStep_eq, wipeE, sp_may (show 1 ≤ n - 1 by omega)]
        cases may ps y x <;> rfl
      · omega
    · intro env S2 h
      obtain ⟨rfl, v6, v7, rfl⟩ := (hJ _ _ _).mp h
      simp [freeze]
      have hoth := List.length_filter_le (fun g => !hang ps x g) found
      rw [bin_catL (by simp; omega)]
      simp only [ofO_some, wp_ok]
      have := fin (S' ++ [.dead, .dead]) [] (some (.d (L_ (x :: (found.filter (hang ps x)).flatten)))) (some (.d (.list ((found.filter fun g => !hang ps x g).map L_)))) v6 v7 rfl
      unfold addG at this
      have hLe : L_ (x :: (found.filter (hang ps x)).flatten) = .list (.int x :: ((found.filter (hang ps x)).map (List.map PyData.int)).flatten) := by
        show PyData.list _ = _
        rw [List.map_cons, List.map_flatten]
      rw [List.map_append, List.map_cons, List.map_nil, hLe] at this
      exact this
  · intro env S' h
    obtain ⟨ds, found, rfl, hfd, hfl, hfn, v3, v4, v5, v6, v7, rfl⟩ := (hI _ _ _).mp h
    simp [hfd]
end
end Law

set_option Elab.async false
set_option linter.all false
set_option autoImplicit false
set_option maxRecDepth 100000
set_option maxHeartbeats 4000000
/-! Law k16: the law's own lots; both are the lots that hang together. -/
namespace Law
open PySem L2 Itp
/-- a way of letters of ls, each of which may not change places with the next -/
inductive Conn (ps : List (Int × Int)) (ls : List Int) (x : Int) : Int → Prop
  | refl : Conn ps ls x x
  | step {y z : Int} : Conn ps ls x y → z ∈ ls → may ps y z = false → Conn ps ls x z
theorem Conn.trans {ps : List (Int × Int)} {ls : List Int} {x y z : Int} (h : Conn ps ls x y) (k : Conn ps ls y z) : Conn ps ls x z := by
  induction k with
  | refl => exact h
  | step _ m d ih => exact .step ih m d
theorem Conn.symm {ps : List (Int × Int)} {ls : List Int} {x y : Int} (hx : x ∈ ls) (h : Conn ps ls x y) : y ∈ ls ∧ Conn ps ls y x := by
  induction h with
  | refl => exact ⟨hx, .refl⟩
  | step _ m d ih =>
    refine ⟨m, Conn.trans (.step .refl ih.1 ?_) ih.2⟩
    rw [may_comm]; exact d
theorem Conn.mono {ps : List (Int × Int)} {ls ls' : List Int} (hs : ∀ z ∈ ls, z ∈ ls') {x y : Int} (h : Conn ps ls x y) : Conn ps ls' x y := by
  induction h with
  | refl => exact .refl
  | step _ m d ih => exact .step ih (hs _ m) d
theorem sep_two {ps : List (Int × Int)} {g g' : List Int} (e : g ≠ g') {y z : Int} (hy : y ∈ g) (hz : z ∈ g') : ∀ gs : List (List Int), gs.Pairwise (fun g h => ∀ x ∈ g, ∀ y ∈ h, may ps x y = true) → g ∈ gs → g' ∈ gs → may ps y z = true := by
  intro gs hp
  induction hp with
  | nil => intro a; cases a
  | cons hp1 hp2 ih2 =>
    intro a b
    rcases List.mem_cons.mp a with rfl | a1
    · rcases List.mem_cons.mp b with rfl | b1
      · exact absurd rfl e
      · exact hp1 _ b1 _ hy _ hz
    · rcases List.mem_cons.mp b with rfl | b1
      · rw [may_comm]; exact hp1 _ a1 _ hz _ hy
      · exact ih2 a1 b1
structure Lots (ps : List (Int × Int)) (ls : List Int) (gs : List (List Int)) : Prop where
  ne : ∀ g ∈ gs, g ≠ []
  sub : ∀ g ∈ gs, ∀ x ∈ g, x ∈ ls
  cov : ∀ x ∈ ls, ∃ g ∈ gs, x ∈ g
  con : ∀ g ∈ gs, ∀ x ∈ g, ∀ y ∈ g, Conn ps ls x y
  sep : gs.Pairwise fun g h => ∀ x ∈ g, ∀ y ∈ h, may ps x y = true
theorem Lots.closed {ps : List (Int × Int)} {ls : List Int} {gs : List (List Int)} (h : Lots ps ls gs) {g : List Int} (hg : g ∈ gs) {x y : Int} (hx : x ∈ g) (k : Conn ps ls x y) : y ∈ g := by
  induction k with
  | refl => exact hx
  | @step y z _ m d ih =>
    obtain ⟨g', hg', hz⟩ := h.cov z m
    by_cases e : g = g'
    · rw [e]; exact hz
    · exfalso
      rw [sep_two e ih hz gs h.sep hg hg'] at d
      cases d
/-- two lots of one row: the same rows -/
theorem lots_perm {L : Int} {ps : List (Int × Int)} (hp : Prs L ps) {row ls : List Int} (hl : ∀ x, x ∈ ls ↔ x ∈ row) {A B : List (List Int)} (hA : Lots ps ls A) (hB : Lots ps ls B) :
    (A.map fun g => row.filter fun x => decide (x ∈ g)).Perm (B.map fun g => row.filter fun x => decide (x ∈ g)) := by
  have half : ∀ {A B : List (List Int)}, Lots ps ls A → Lots ps ls B → ∀ r ∈ (A.map fun g => row.filter fun x => decide (x ∈ g)), r ∈ (B.map fun g => row.filter fun x => decide (x ∈ g)) := by
    intro A B hA hB r hr
    obtain ⟨g, hg, rfl⟩ := List.mem_map.mp hr
    obtain ⟨x, g', e⟩ := List.exists_cons_of_ne_nil (hA.ne g hg)
    have hx : x ∈ g := by rw [e]; exact List.mem_cons_self
    obtain ⟨h, hh, hxh⟩ := hB.cov x (hA.sub g hg x hx)
    refine List.mem_map.mpr ⟨h, hh, ?_⟩
    apply List.filter_congr
    intro z _
    rw [decide_eq_decide]
    constructor
    · intro hz; exact hA.closed hg hx (hB.con h hh x hxh z hz)
    · intro hz; exact hB.closed hh hxh (hA.con g hg x hx z hz)
  have nd : ∀ {A : List (List Int)}, Lots ps ls A → (A.map fun g => row.filter fun x => decide (x ∈ g)).Nodup := by
    intro A hA
    rw [List.Nodup, List.pairwise_map]
    have hs := hA.sep
    have hne := hA.ne
    have hsub := hA.sub
    clear hA
    induction hs with
    | nil => exact .nil
    | @cons g gs h1 h2 ih =>
      refine .cons ?_ (ih (fun g' h' => hne g' (List.mem_cons_of_mem _ h')) fun g' h' => hsub g' (List.mem_cons_of_mem _ h'))
      intro g' hg' e
      obtain ⟨x, t, et⟩ := List.exists_cons_of_ne_nil (hne g List.mem_cons_self)
      have hx : x ∈ g := by rw [et]; exact List.mem_cons_self
      have hxr : x ∈ row.filter fun x => decide (x ∈ g) := List.mem_filter.mpr ⟨(hl x).mp (hsub g List.mem_cons_self x hx), by simp [hx]⟩
      rw [e] at hxr
      have hx' : x ∈ g' := by simpa using (List.mem_filter.mp hxr).2
      have := h1 g' hg' x hx x hx'
      rw [may_self hp] at this
      cases this
  exact (List.perm_ext_iff_of_nodup (nd hA) (nd hB)).mpr fun r => ⟨half hA hB r, half hB hA r⟩
/-! ### the program's lots are lots -/
theorem lots_grp {L : Int} {ps : List (Int × Int)} (hp : Prs L ps) : ∀ (ls : List Int), ls.Nodup → Lots ps ls (grpR ps ls) := by
  intro ls
  have key : ∀ (post pre : List Int), (pre ++ post).Nodup → Lots ps pre (grpR ps pre) → Lots ps (pre ++ post) (post.foldl (addG ps) (grpR ps pre)) := by
    intro post
    induction post with
    | nil => intro pre _ h; rw [List.append_nil]; exact h
    | cons x post ih =>
      intro pre hn h
      have e : pre ++ x :: post = (pre ++ [x]) ++ post := by simp
      rw [e] at hn ⊢
      have step : Lots ps (pre ++ [x]) (grpR ps (pre ++ [x])) := by
        have eg : grpR ps (pre ++ [x]) = addG ps (grpR ps pre) x := by unfold grpR; rw [List.foldl_append]; rfl
        rw [eg]
        generalize grpR ps pre = found at h
        have hmono : ∀ {a b : Int}, Conn ps pre a b → Conn ps (pre ++ [x]) a b := fun hc => hc.mono fun z hz => List.mem_append_left _ hz
        have hmem : ∀ g, g ∈ addG ps found x ↔ (g ∈ found ∧ hang ps x g = false) ∨ g = x :: (found.filter (hang ps x)).flatten := by
          intro g
          unfold addG
          rw [List.mem_append, List.mem_filter, List.mem_singleton]
          simp
        have hfl : ∀ z, z ∈ (found.filter (hang ps x)).flatten ↔ ∃ g ∈ found, hang ps x g = true ∧ z ∈ g := by
          intro z
          rw [List.mem_flatten]
          constructor
          · rintro ⟨g, hg, hz⟩
            obtain ⟨a, b⟩ := List.mem_filter.mp hg
            exact ⟨g, a, b, hz⟩
          · rintro ⟨g, a, b, hz⟩
            exact ⟨g, List.mem_filter.mpr ⟨a, b⟩, hz⟩
        have toX : ∀ z, (∃ g ∈ found, hang ps x g = true ∧ z ∈ g) → Conn ps (pre ++ [x]) z x := by
          rintro z ⟨g, hg, hh, hz⟩
          unfold hang at hh
          obtain ⟨y, hy, hd⟩ := List.any_eq_true.mp hh
          refine .step (hmono (h.con g hg z hz y hy)) (by simp) ?_
          simpa using hd
        refine ⟨?_, ?_, ?_, ?_, ?_⟩
        · intro g hg
          rcases (hmem g).mp hg with ⟨a, _⟩ | rfl
          · exact h.ne g a
          · simp
        · intro g hg z hz
          rcases (hmem g).mp hg with ⟨a, _⟩ | rfl
          · exact List.mem_append_left _ (h.sub g a z hz)
          · rcases List.mem_cons.mp hz with rfl | hz
            · simp
            · obtain ⟨g', hg', _, hz'⟩ := (hfl z).mp hz
              exact List.mem_append_left _ (h.sub g' hg' z hz')
        · intro z hz
          rcases List.mem_append.mp hz with hz | hz
          · obtain ⟨g, hg, hzg⟩ := h.cov z hz
            cases hh : hang ps x g with
            | false => exact ⟨g, (hmem g).mpr (.inl ⟨hg, hh⟩), hzg⟩
            | true => exact ⟨_, (hmem _).mpr (.inr rfl), List.mem_cons_of_mem _ ((hfl z).mpr ⟨g, hg, hh, hzg⟩)⟩
          · simp at hz
            subst hz
            exact ⟨_, (hmem _).mpr (.inr rfl), List.mem_cons_self⟩
        · intro g hg a ha b hb
          rcases (hmem g).mp hg with ⟨c, _⟩ | rfl
          · exact hmono (h.con g c a ha b hb)
          · have one : ∀ z, z ∈ x :: (found.filter (hang ps x)).flatten → z ∈ pre ++ [x] ∧ Conn ps (pre ++ [x]) z x := by
              intro z hz
              rcases List.mem_cons.mp hz with rfl | hz
              · exact ⟨by simp, .refl⟩
              · obtain ⟨g', hg', hh, hz'⟩ := (hfl z).mp hz
                exact ⟨List.mem_append_left _ (h.sub g' hg' z hz'), toX z ⟨g', hg', hh, hz'⟩⟩
            obtain ⟨_, a2⟩ := one a ha
            obtain ⟨b1, b2⟩ := one b hb
            exact a2.trans (Conn.symm b1 b2).2
        · unfold addG
          rw [List.pairwise_append]
          refine ⟨h.sep.filter _, by simp, ?_⟩
          intro g hg g' hg'
          simp at hg'
          subst hg'
          obtain ⟨hg1, hg2⟩ := List.mem_filter.mp hg
          intro a ha b hb
          rcases List.mem_cons.mp hb with rfl | hb
          · have : hang ps b g = false := by simpa using hg2
            unfold hang at this
            cases hm : may ps a b with
            | true => rfl
            | false =>
              have h2 : g.any (fun y => !may ps y b) = true := List.any_eq_true.mpr ⟨a, ha, by simp [hm]⟩
              rw [h2] at this
              cases this
          · obtain ⟨g2, hg2', hh2, hb2⟩ := (hfl b).mp hb
            have hne : g ≠ g2 := by
              intro z
              rw [z, hh2] at hg2
              cases hg2
            cases hm : may ps a b with
            | true => rfl
            | false =>
              exfalso
              have : b ∈ g := h.closed hg1 ha (.step .refl (h.sub g2 hg2' b hb2) hm)
              have := sep_two hne this hb2 found h.sep hg1 hg2'
              rw [may_self hp] at this
              cases this
      have := ih (pre ++ [x]) hn step
      have eg : grpR ps (pre ++ [x]) = addG ps (grpR ps pre) x := by unfold grpR; rw [List.foldl_append]; rfl
      rw [eg] at this
      exact this
  intro hn
  have := key ls [] (by simpa using hn) ⟨by simp [grpR], by simp [grpR], by simp, by simp [grpR], by simp [grpR]⟩
  simpa [grpR] using this
end Law

set_option Elab.async false
set_option linter.all false
set_option autoImplicit false
set_option maxRecDepth 100000
set_option maxHeartbeats 4000000
/-! k17, plain: rows that hang together and may change places as a whole have one root. -/
namespace Law
def Hangs (ps : List (Int × Int)) (u : List Int) : Prop := u ≠ [] ∧ ∀ x ∈ u, ∀ y ∈ u, Conn ps u x y
section
variable {ps : List (Int × Int)} (irr : ∀ a, may ps a a = false)
include irr
theorem pair_words {u v : List Int} (h : Alk ps (u ++ v) (v ++ u)) {a b : Int} (hab : may ps a b = false) : ∃ (w : List Int) (i j : Nat), only2 a b u = pw w i ∧ only2 a b v = pw w j ∧ (∀ z, z = a ∨ z = b → u.count z = i * w.count z ∧ v.count z = j * w.count z) ∧ ∀ z ∈ w, z = a ∨ z = b := by
  have h1 := alk_only irr h hab
  rw [only_app irr, only_app irr] at h1
  obtain ⟨w, i, j, e1, e2⟩ := comm_root _ _ _ (Nat.le_refl _) h1
  by_cases hij : i = 0 ∧ j = 0
  · obtain ⟨rfl, rfl⟩ := hij
    refine ⟨[], 0, 0, by rw [e1]; rfl, by rw [e2]; rfl, fun z hz => ?_, by simp⟩
    have cu : (only2 a b u).count z = u.count z := List.count_filter (by rcases hz with rfl | rfl <;> simp)
    have cv : (only2 a b v).count z = v.count z := List.count_filter (by rcases hz with rfl | rfl <;> simp)
    rw [e1] at cu
    rw [e2] at cv
    simp at cu cv
    simp
    exact ⟨cu.symm ▸ (by simpa using cu.symm), by simpa using cv.symm⟩
  · refine ⟨w, i, j, e1, e2, fun z hz => ?_, fun z hz => ?_⟩
    · have cu : (only2 a b u).count z = u.count z := List.count_filter (by rcases hz with rfl | rfl <;> simp)
      have cv : (only2 a b v).count z = v.count z := List.count_filter (by rcases hz with rfl | rfl <;> simp)
      rw [← cu, ← cv, e1, e2, pw_count, pw_count]
      exact ⟨rfl, rfl⟩
    · have : z ∈ only2 a b u ∨ z ∈ only2 a b v := by
        rcases Nat.eq_zero_or_pos i with c | c
        · right
          obtain ⟨k, hk⟩ : ∃ k, j = k + 1 := ⟨j - 1, by omega⟩
          rw [e2, hk, pw_succ]
          exact List.mem_append_left _ hz
        · left
          obtain ⟨k, hk⟩ : ∃ k, i = k + 1 := ⟨i - 1, by omega⟩
          rw [e1, hk, pw_succ]
          exact List.mem_append_left _ hz
      rcases this with h | h
      · have := (List.mem_filter.mp h).2
        simpa using this
      · have := (List.mem_filter.mp h).2
        simpa using this
/-- the letters' numbers in one proportion -/
def Prop_ (u v : List Int) (p q : Nat) (z : Int) : Prop := q * u.count z = p * v.count z
theorem prop_go {u v : List Int} (h : Alk ps (u ++ v) (v ++ u)) {p q : Nat} (hp : 0 < p) (hq : 0 < q) {z z' : Int} (hz : Prop_ u v p q z) (hu : z ∈ u ∨ z ∈ v) (hm : may ps z z' = false) : Prop_ u v p q z' := by
  obtain ⟨w, i, j, _, _, hc, _⟩ := pair_words irr h hm
  obtain ⟨c1, c2⟩ := hc z (.inl rfl)
  obtain ⟨d1, d2⟩ := hc z' (.inr rfl)
  unfold Prop_ at hz ⊢
  have hpos : 0 < w.count z := by
    rcases Nat.eq_zero_or_pos (w.count z) with c | c
    · rw [c] at c1 c2
      simp at c1 c2
      rcases hu with h | h
      · have := List.count_pos_iff.mpr h; omega
      · have := List.count_pos_iff.mpr h; omega
    · exact c
  rw [c1, c2, ← Nat.mul_assoc, ← Nat.mul_assoc] at hz
  have e := Nat.eq_of_mul_eq_mul_right hpos hz
  rw [d1, d2, ← Nat.mul_assoc, ← Nat.mul_assoc, e]
theorem prop_conn {u v ls : List Int} (h : Alk ps (u ++ v) (v ++ u)) {p q : Nat} (hp : 0 < p) (hq : 0 < q) (hl : ∀ z ∈ ls, z ∈ u ∨ z ∈ v) {x y : Int} (hx : Prop_ u v p q x) (hxm : x ∈ ls) (k : Conn ps ls x y) : Prop_ u v p q y ∧ y ∈ ls := by
  induction k with
  | refl => exact ⟨hx, hxm⟩
  | step _ m d ih => exact ⟨prop_go irr h hp hq ih.1 (hl _ ih.2) d, m⟩
theorem same_root {u v t t' : List Int} {m m' : Nat} (h : Alk ps (u ++ v) (v ++ u)) (hu : Hangs ps u) (hv : Hangs ps v) {x y : Int} (hx : x ∈ u) (hy : y ∈ v) (hxy : may ps x y = false) (ru : IsRoot ps u t m) (rv : IsRoot ps v t' m') : Alk ps t t' := by
  obtain ⟨w, i, j, e1, e2, hc, _⟩ := pair_words irr h hxy
  obtain ⟨c1, c2⟩ := hc x (.inl rfl)
  obtain ⟨d1, d2⟩ := hc y (.inr rfl)
  have hux : 0 < u.count x := List.count_pos_iff.mpr hx
  have hvy : 0 < v.count y := List.count_pos_iff.mpr hy
  have hj : 0 < j := Nat.pos_of_ne_zero fun e => by rw [e] at d2; omega
  have hwx : 0 < w.count x := Nat.pos_of_ne_zero fun e => by rw [e] at c1; omega
  have hvx : 0 < v.count x := by rw [c2]; exact Nat.mul_pos hj hwx
  have hxv : x ∈ v := List.count_pos_iff.mp hvx
  have P0 : Prop_ u v (u.count x) (v.count x) x := Nat.mul_comm _ _
  have Pu : ∀ z ∈ u, Prop_ u v (u.count x) (v.count x) z := fun z hz => (prop_conn irr h hux hvx (fun z hz => .inl hz) P0 hx (hu.2 x hx z hz)).1
  have Pv : ∀ z ∈ v, Prop_ u v (u.count x) (v.count x) z := fun z hz => (prop_conn irr h hux hvx (fun z hz => .inr hz) P0 hxv (hv.2 x hxv z hz)).1
  have P : ∀ z, Prop_ u v (u.count x) (v.count x) z := by
    intro z
    by_cases h1 : z ∈ u
    · exact Pu z h1
    · by_cases h2 : z ∈ v
      · exact Pv z h2
      · unfold Prop_
        rw [List.count_eq_zero.mpr h1, List.count_eq_zero.mpr h2]
        simp
  generalize u.count x = p at P hux
  generalize v.count x = q at P hvx
  have hpow : Alk ps (pw u q) (pw v p) := by
    refine alk_of irr fun a b hab => ?_
    obtain ⟨w, i, j, e1, e2, hc, hw⟩ := pair_words irr h hab
    rw [pw_only, pw_only, e1, e2, ← pw_mul, ← pw_mul]
    cases w with
    | nil => simp
    | cons z w =>
      obtain ⟨c1, c2⟩ := hc z (hw z List.mem_cons_self)
      have hz := P z
      unfold Prop_ at hz
      rw [c1, c2, ← Nat.mul_assoc, ← Nat.mul_assoc] at hz
      have hpos : 0 < (z :: w).count z := List.count_pos_iff.mpr List.mem_cons_self
      have e := Nat.eq_of_mul_eq_mul_right hpos hz
      rw [Nat.mul_comm i q, Nat.mul_comm j p, e]
  exact (root_uniq irr (root_pow irr hu.1 hvx ru) (root_pow irr hv.1 hux rv) hpow).2
theorem root_comm {u v t t' : List Int} {m m' : Nat} (ru : IsRoot ps u t m) (rv : IsRoot ps v t' m') (ht : Alk ps t t') : Alk ps (u ++ v) (v ++ u) := by
  have h1 := rv.ok.trans (pw_alk irr ht.symm m')
  refine (alk_app irr ru.ok h1).trans ?_
  rw [← pw_add, Nat.add_comm, pw_add]
  exact (alk_app irr h1 ru.ok).symm
theorem free_comm {u v : List Int} (h : ∀ x ∈ u, ∀ y ∈ v, may ps x y = true) : Alk ps (u ++ v) (v ++ u) := by
  refine alk_of irr fun a b hab => ?_
  rw [only_app irr, only_app irr]
  by_cases hu : only2 a b u = []
  · rw [hu]; simp
  · by_cases hv : only2 a b v = []
    · rw [hv]; simp
    · exfalso
      obtain ⟨x, hx⟩ := List.exists_mem_of_ne_nil _ hu
      obtain ⟨y, hy⟩ := List.exists_mem_of_ne_nil _ hv
      obtain ⟨x1, x2⟩ := List.mem_filter.mp hx
      obtain ⟨y1, y2⟩ := List.mem_filter.mp hy
      have hm := h x x1 y y1
      have x2 : x = a ∨ x = b := by simpa using x2
      have y2 : y = a ∨ y = b := by simpa using y2
      rcases x2 with rfl | rfl <;> rcases y2 with rfl | rfl
      · rw [irr] at hm; cases hm
      · rw [hab] at hm; cases hm
      · rw [may_comm, hab] at hm; cases hm
      · rw [irr] at hm; cases hm
end
/-- what root answers -/
def RootOf (ps : List (Int × Int)) (r t : List Int) (m : Nat) : Prop := (r = [] ∧ t = [] ∧ m = 1) ∨ (r ≠ [] ∧ IsRoot ps r t m)
section
variable {ps : List (Int × Int)} (irr : ∀ a, may ps a a = false)
include irr
theorem rootOf_uniq {r s t t' : List Int} {m m' : Nat} (h : RootOf ps r t m) (k : RootOf ps s t' m') (e : Alk ps r s) : m = m' ∧ Alk ps t t' := by
  rcases h with ⟨h1, h2, h3⟩ | ⟨h1, h2⟩
  · rcases k with ⟨k1, k2, k3⟩ | ⟨k1, k2⟩
    · subst h2 h3 k2 k3
      exact ⟨rfl, .refl _⟩
    · exfalso
      subst h1
      exact k1 (List.length_eq_zero_iff.mp (by rw [← e.perm.length_eq]; rfl))
  · rcases k with ⟨k1, k2, k3⟩ | ⟨k1, k2⟩
    · exfalso
      subst k1
      exact h1 (List.length_eq_zero_iff.mp e.perm.length_eq)
    · exact root_uniq irr h2 k2 e
end
end Law

set_option Elab.async false
set_option linter.all false
set_option autoImplicit false
set_option maxRecDepth 100000
set_option maxHeartbeats 4000000
/-! k17: roots and powers by the program and by the law. -/
namespace Law
open PySem L2 Itp
theorem a_sub {C : CallF} {a i : E} {v : Vl} {env : Ev} {S : Sto} : assignE C (.sub a i) v env S = (evalE C a env S).bind fun x S => (evalE C i env S).bind fun y S => setSub x y v env S := rfl
theorem bin_pw {S : Sto} {r : List Int} {m : Nat} (hm : m ≤ 1000) (hr : r.length ≤ 1000) : binD S .mul (.d (T_ r)) (.d (.int (m : Nat))) = some (T_ (pw r m)) := by
  show (if decide ((0 : Int) ≤ (m : Int) ∧ (m : Int) ≤ 1000) && Nat.ble (r.map PyData.int).length 1000 then some (PyData.tuple (repL (r.map .int) (m : Int))) else none) = _
  have h1 : decide ((0 : Int) ≤ (m : Int) ∧ (m : Int) ≤ 1000) = true := decide_eq_true ⟨by omega, by omega⟩
  have h2 : Nat.ble (r.map PyData.int).length 1000 = true := Nat.ble_eq.mpr (by simpa using hr)
  rw [h1, h2]
  have : repL (r.map PyData.int) (m : Int) = (pw r m).map PyData.int := by
    unfold repL pw
    rw [Int.toNat_natCast, List.map_flatten, List.map_replicate]
  rw [this]
  rfl
theorem bin_mulN {S : Sto} {i j : Nat} (h : i ≤ 1000) : binD S .mul (.d (.int (i : Nat))) (.d (.int (j : Nat))) = some (.int ((i * j : Nat) : Int)) := by
  show (if mulOk (i : Int) (j : Int) = true then some (PyData.int ((i : Int) * (j : Int))) else none) = _
  rw [if_pos]
  · rw [Int.natCast_mul]
  · unfold mulOk
    rw [Bool.or_eq_true]
    left
    rw [Nat.blt_eq]
    omega
theorem fdiv_N {S : Sto} {i j : Nat} (h : 0 < j) (h2 : j ≤ 1000) : binD S .fdiv (.d (.int (i : Nat))) (.d (.int (j : Nat))) = some (.int ((i / j : Nat) : Int)) := by
  show (if divOk (j : Int) = true then some (PyData.int ((i : Int) / (j : Int))) else none) = _
  rw [if_pos (divOk_iff.mpr ⟨by omega, by omega⟩)]
  rfl
theorem mod_N {S : Sto} {i j : Nat} (h : 0 < j) : binD S .mod (.d (.int (i : Nat))) (.d (.int (j : Nat))) = some (.int ((i % j : Nat) : Int)) := by
  show (if decide ((0 : Int) < (j : Int)) = true then some (PyData.int ((i : Int) % (j : Int))) else none) = _
  rw [if_pos (decide_eq_true (by omega))]
  rfl
theorem down_at {n i : Nat} {x : D} (h : (rangeD 2 ((n : Int) + 1)).reverse[i]? = some x) : i + 2 ≤ n ∧ x = .int ((n - i : Nat) : Int) := by
  have hlen : (rangeD 2 ((n : Int) + 1)).length = n - 1 := by simp [rangeD]; omega
  have hi : i < (rangeD 2 ((n : Int) + 1)).reverse.length := (List.getElem?_eq_some_iff.mp h).1
  rw [List.length_reverse, hlen] at hi
  rw [List.getElem?_reverse (by rw [hlen]; exact hi), hlen] at h
  unfold rangeD at h
  rw [List.getElem?_map] at h
  obtain ⟨k, hk, rfl⟩ := Option.map_eq_some_iff.mp h
  obtain ⟨hl, e⟩ := List.getElem?_eq_some_iff.mp hk
  rw [List.getElem_range] at e
  refine ⟨by omega, ?_⟩
  congr 1
  omega
section
variable {n : Nat} {S : Sto}
theorem sp_first_part (hn : 1 ≤ n) {r : List Int} {m : Nat} (hr : r.length ≤ 1000) (h0 : 0 < m) (h1 : m ≤ 1000) : runFn G 1000 n F_first_part [.d (T_ r), .d (.int (m : Nat))] S = .ok (.d (T_ (fpR r m))) S := by
  apply wp_eq
  rw [en_first_part (by omega), wp_endF]
  unfold ir_first_part
  refine seq fun K hK => ?_
  have hd : ∀ env, evalE (runFn G 1000 (n - 1)) .dnew env S = .ok (.r S.length) (S ++ [.dic []]) := fun _ => rfl
  simp only [x_asg, hd, wpS_bindS, wp_ok, wpS_okS, a_var, wpS_nx, List.set_cons_zero, List.set_cons_succ]
  apply hK
  refine seq fun K hK => ?_
  simp only [x_asg, wpS_bindS, v_new, vs_nil, bind_ok, allDat_nil, List.length_nil, inL0, if_true, wp_ok, wpS_okS, a_var, wpS_nx, List.set_cons_zero, List.set_cons_succ]
  apply hK
  have hl1 : (S ++ [O.dic []]).length = S.length + 1 := by simp
  rw [hl1]
  refine seq fun K hK => ?_
  simp only [x_for, wpS_bindS, i_var_, v_var, List.getElem?_cons_zero, List.getElem?_cons_succ, bind_ok, items_T, wp_ok]
  generalize hc : (fun x => r.count x / m) = c
  obtain ⟨I, hI⟩ := mkI fun (pre : List Int) env Z => ∃ (kvs : List (Int × D)) (acc : List Int) (v4 v5 : Option Vl), (∀ x, (lk kvs x).getD (.int 0) = .int (pre.count x : Nat)) ∧ kvs.length ≤ pre.length ∧ acc.length ≤ pre.length ∧ (∀ post, r = pre ++ post → fpG c [] r = acc ++ fpG c pre post) ∧ Z = S ++ [.dic (ikD kvs), .lst (acc.map .int)] ∧ env = [some (.d (T_ r)), some (.d (.int (m : Nat))), some (.r S.length), some (.r (S.length + 1)), v4, v5]
  refine wp_for I ((hI _ _ _).mpr ⟨[], [], none, none, fun x => rfl, by simp, by simp, fun post e => by rw [e]; rfl, by simp, rfl⟩) ?_ ?_
  · intro pre x post env Z e hh
    obtain ⟨kvs, acc, v4, v5, hk, hkl, hal, hf, rfl, rfl⟩ := (hI _ _ _).mp hh
    have hpl : pre.length < r.length := by rw [e]; simp
    have gd : (S ++ [O.dic (ikD kvs), O.lst (acc.map .int)])[S.length]? = some (.dic (ikD kvs)) := by simp
    have gl : ∀ d, (S ++ [O.dic d, O.lst (acc.map .int)])[S.length + 1]? = some (.lst (acc.map .int)) := fun d => by simp
    have rg : recvOk (S ++ [O.dic (ikD kvs), O.lst (acc.map .int)]) .get (.r S.length) = true := by
      show (dicOf _ (.r S.length)).isSome = true
      unfold dicOf
      simp [gd]
    have hget : mthD (S ++ [O.dic (ikD kvs), O.lst (acc.map .int)]) .get (.r S.length) [.d (.int x), .d (.int 0)] = .ok (.d (.int (pre.count x : Nat))) (S ++ [O.dic (ikD kvs), O.lst (acc.map .int)]) := by
      show ofO (S ++ [O.dic (ikD kvs), O.lst (acc.map .int)]) (getOrD (S ++ [O.dic (ikD kvs), O.lst (acc.map .int)]) (.r S.length) [.d (.int x), .d (.int 0)]) = _
      rw [getOr_I gd, hk]
      rfl
    have hfx := hf (x :: post) e
    rw [fpG_cons] at hfx
    rw [a_var, wp_ok]
    refine seq fun K2 hK2 => ?_
    simp only [x_asg, wpS_bindS, v_mth, v_var, v_con, vs_cons, vs_nil, List.getElem?_cons_zero, List.getElem?_cons_succ, List.set_cons_zero, List.set_cons_succ, bind_ok, rg, if_true, hget, wp_ok, wpS_okS, a_var, wpS_nx]
    apply hK2
    refine seq fun K3 hK3 => ?_
    have fin : ∀ acc' : List Int, acc'.length ≤ pre.length + 1 → fpG c [] r = acc' ++ fpG c (pre ++ [x]) post → K3 [some (.d (T_ r)), some (.d (.int (m : Nat))), some (.r S.length), some (.r (S.length + 1)), some (.d (.int x)), some (.d (.int (pre.count x : Nat)))] (S ++ [.dic (ikD kvs), .lst (acc'.map .int)]) := by
      intro acc' hl hf'
      have gd' : (S ++ [O.dic (ikD kvs), O.lst (acc'.map .int)])[S.length]? = some (.dic (ikD kvs)) := by simp
      apply hK3
      simp only [execSs_cons, execSs_nil, wpS_bind, x_asg, wpS_bindS, v_bin, v_var, v_con, List.getElem?_cons_zero, List.getElem?_cons_succ, bind_ok, bin_add, ofO_some, wp_ok, wpS_okS, a_sub, set_I gd' (show kvs.length < 95000 by omega), wpS_nx]
      refine (hI _ _ _).mpr ⟨putI kvs x (.int ((pre.count x : Nat) + 1)), acc', _, _, fun y => ?_, ?_, by simpa using hl, fun post' e' => ?_, by simp, rfl⟩
      · rw [lk_put, List.count_append, List.count_singleton]
        by_cases hy : y = x
        · subst hy
          simp
        · have hy' : (x == y) = false := by rw [beq_eq_false_iff_ne]; exact fun h => hy h.symm
          rw [if_neg hy, hk, hy']
          simp
      · have := put_len kvs x (.int ((pre.count x : Nat) + 1))
        rw [List.length_append, List.length_singleton]
        omega
      · rw [List.append_assoc, List.cons_append, List.nil_append, e] at e'
        have := List.append_cancel_left e'
        cases this
        exact hf'
    have hcx : r.count x / m = c x := by rw [← hc]
    simp only [x_ite, wpS_bindS, t_cmp_, v_cmp, v_bin, v_mth, v_var, vs_cons, vs_nil, List.getElem?_cons_zero, List.getElem?_cons_succ, bind_ok, recv_countT, if_true, mth_countT, fdiv_N h0 h1, hcx, ofO_some, cmp_lt, ofB_some, truth_b, wp_ok]
    by_cases hlt : pre.count x < c x
    · have hlt' : ((pre.count x : Nat) : Int) < ((c x : Nat) : Int) := by omega
      rw [if_pos hlt] at hfx
      simp only [hlt', decide_true, if_true, execSs_cons, execSs_nil, wpS_bind, x_exp, wpS_bindS, v_mth, v_var, vs_cons, vs_nil, List.getElem?_cons_zero, List.getElem?_cons_succ, bind_ok]
      rw [recv_app (gl _)]
      simp only [if_true]
      rw [mth_app (gl _) (by rw [List.length_map]; omega)]
      simp only [wp_ok, wpS_nx]
      have := fin (acc ++ [x]) (by simp; omega) (by rw [hfx]; simp)
      have e2 : (S ++ [O.dic (ikD kvs), O.lst (acc.map .int)]).set (S.length + 1) (.lst (acc.map .int ++ [.int x])) = S ++ [.dic (ikD kvs), .lst ((acc ++ [x]).map .int)] := by simp
      rw [e2]
      exact this
    · have hlt' : ¬ ((pre.count x : Nat) : Int) < ((c x : Nat) : Int) := by omega
      rw [if_neg hlt] at hfx
      simp only [hlt', decide_false, Bool.false_eq_true, if_false, execSs_nil, wpS_nx]
      exact fin acc (by omega) hfx
  · intro env Z hh
    obtain ⟨kvs, acc, v4, v5, hk, hkl, hal, hf, rfl, rfl⟩ := (hI _ _ _).mp hh
    have hff := hf [] (by simp)
    have : fpG c r [] = [] := rfl
    rw [this, List.append_nil] at hff
    apply hK
    have gl : (S ++ [O.dic (ikD kvs), O.lst (acc.map .int)])[S.length + 1]? = some (.lst (acc.map .int)) := by simp
    simp only [execSs_cons, execSs_nil, wpS_bind, x_fz, freeze, List.getElem?_cons_zero, List.getElem?_cons_succ, gl, List.set_cons_zero, List.set_cons_succ, x_ret, wpS_bindS, v_b1, v_var, bind_ok, b1_tupL, ofO_some, wp_ok, wpS_rt, isD_d]
    unfold fpR
    rw [hc, hff]
    refine ⟨rfl, ?_⟩
    rw [List.take_set, List.take_left' rfl, List.set_eq_of_length_le (by omega)]
theorem row_pw {L : Int} {k : Nat} {r : List Int} (h : Row L k r) (m : Nat) : Row L (m * k) (pw r m) := by
  refine ⟨by rw [pw_len]; exact Nat.mul_le_mul_left m h.len, fun x hx => ?_, fun x hx => ?_⟩
  · unfold pw at hx
    obtain ⟨l, hl, hxl⟩ := List.mem_flatten.mp hx
    rw [(List.mem_replicate.mp hl).2] at hxl
    exact h.low x hxl
  · unfold pw at hx
    obtain ⟨l, hl, hxl⟩ := List.mem_flatten.mp hx
    rw [(List.mem_replicate.mp hl).2] at hxl
    exact h.high x hxl
theorem fpG_sub (c : Int → Nat) : ∀ (r pre : List Int), (∀ x ∈ fpG c pre r, x ∈ r) ∧ (fpG c pre r).length ≤ r.length
  | [], _ => ⟨by simp [fpG], by simp [fpG]⟩
  | x :: r, pre => by
    obtain ⟨h1, h2⟩ := fpG_sub c r (pre ++ [x])
    rw [fpG_cons]
    split
    · refine ⟨fun y hy => ?_, by simp; omega⟩
      rcases List.mem_cons.mp hy with rfl | hy
      · exact List.mem_cons_self
      · exact List.mem_cons_of_mem _ (h1 y hy)
    · exact ⟨fun y hy => List.mem_cons_of_mem _ (h1 y hy), by simp; omega⟩
/-- no greater power -/
theorem isRoot_of {ps : List (Int × Int)} {r t : List Int} {m : Nat} (hr : r ≠ []) (hm : 0 < m) (ok : Alk ps r (pw t m)) (no : ∀ k u, m < k → k ≤ r.length → ¬ Alk ps r (pw u k)) : IsRoot ps r t m := by
  refine ⟨hm, ok, fun k u hu => ?_⟩
  rcases Nat.lt_or_ge m k with c | c
  · exfalso
    refine no k u c ?_ hu
    have hl := hu.perm.length_eq
    rw [pw_len] at hl
    have hpos := List.length_pos_iff.mpr hr
    have : 0 < u.length := Nat.pos_of_ne_zero fun e => by rw [e] at hl; omega
    rw [hl]
    exact Nat.le_mul_of_pos_right k this
  · exact c
theorem sp_root (hn : 6 ≤ n) {L : Nat} (hL : L ≤ 6) {ps : List (Int × Int)} (irr : ∀ a, may ps a a = false) {r : List Int} (hr : Row L 20 r) {Q : Vl → Sto → Prop} (q : ∀ t m, RootOf ps r t m → m ≤ 20 → Q (.d (.tuple [T_ (leastR ps t), .int (m : Nat)])) S) :
    wp (runFn G 1000 n F_root [.d (tr L ps), .d (T_ r)] S) Q := by
  have hrl := hr.len
  rw [en_root (by omega), wp_endF]
  unfold ir_root
  refine seq fun K hK => ?_
  simp [sp_check_row (show 4 ≤ n - 1 by omega) hr]
  apply hK
  refine seq fun K hK => ?_
  have hrv : ∀ env : Ev, env[1]? = some (some (.d (T_ r))) → evalI (runFn G 1000 (n - 1)) (.rvr (.rng2 (.con (.int 2)) (.bin .add (.b1 .len (.var 1)) (.con (.int 1))))) env S = .ok (rangeD 2 ((r.length : Int) + 1)).reverse S := by
    intro env he
    show (evalI (runFn G 1000 (n - 1)) (.rng2 (.con (.int 2)) (.bin .add (.b1 .len (.var 1)) (.con (.int 1)))) env S).bind (fun xs S => .ok xs.reverse S) = _
    simp only [i_rng2_, v_con, v_bin, v_b1, v_var, he, bind_ok, b1_len, lenD_T, List.length_map, ofO_some, bin_add]
    rw [rngI_ok (by omega)]
    rfl
  rw [x_for, hrv _ rfl, wpS_bindS, wp_ok]
  obtain ⟨I, hI⟩ := mkI fun (i : Nat) env Z => ∃ (v2 v3 v4 : Option Vl), (∀ k u, r.length - i < k → k ≤ r.length → ¬ Alk ps r (pw u k)) ∧ Z = S ∧ env = [some (.d (tr L ps)), some (.d (T_ r)), v2, v3, v4]
  refine wp_forD I ((hI _ _ _).mpr ⟨none, none, none, fun k u h1 h2 => by omega, rfl, rfl⟩) ?_ ?_
  · intro i x env Z hx hh
    obtain ⟨v2, v3, v4, hno, rfl, rfl⟩ := (hI _ _ _).mp hh
    obtain ⟨hi, rfl⟩ := down_at hx
    generalize hm : r.length - i = m at hno
    have hm2 : 2 ≤ m := by omega
    have hm20 : m ≤ 20 := by omega
    rw [a_var, wp_ok]
    simp only [execSs_cons, execSs_nil, wpS_bind, x_ite, wpS_bindS, t_not_, t_lc_, v_lc, i_var_, v_var, List.getElem?_cons_zero, List.getElem?_cons_succ, List.set_cons_zero, List.set_cons_succ, bind_ok, items_T]
    rw [lc_map (g := PyData.int) (p := fun x => decide (r.count x % m ≠ 0))]
    · simp only [bind_ok, truth_L, wp_ok]
      have hreach : ∀ u, Alk ps r (pw u m) → r.filter (fun x => decide (r.count x % m ≠ 0)) = [] := by
        intro u hu
        rw [List.filter_eq_nil_iff]
        intro x _
        simp [(fp_root irr (by omega) hu).1 x]
      have next : (∀ u, ¬ Alk ps r (pw u m)) → ∀ v2 v3 v4, I (i + 1) [some (.d (tr L ps)), some (.d (T_ r)), v2, v3, v4] Z := by
        intro hnot v2 v3 v4
        refine (hI _ _ _).mpr ⟨v2, v3, v4, fun k u h1 h2 => ?_, rfl, rfl⟩
        rcases Nat.lt_or_ge m k with c | c
        · exact hno k u c h2
        · rw [show k = m by omega]; exact hnot u
      by_cases hf : r.filter (fun x => decide (r.count x % m ≠ 0)) = []
      · rw [hf]
        simp only [List.map_nil, List.isEmpty_nil, Bool.not_true, Bool.not_false, if_true]
        have hsub := fpG_sub (fun x => r.count x / m) r []
        have hpl : (fpR r m).length ≤ 20 := Nat.le_trans hsub.2 hrl
        have hrow : Row L 20 (fpR r m) := ⟨hpl, fun x hx => hr.low x (hsub.1 x hx), fun x hx => hr.high x (hsub.1 x hx)⟩
        have hrow2 := row_pw hrow m
        obtain ⟨v, ev, hv⟩ := sp_bar_of (n := n - 1) (S := Z) (by omega) (show L ≤ 1000 by omega) (ps := ps) (one := pw (fpR r m) m) (other := r) (by have := hrow2.len; have : m * 20 ≤ 20 * 20 := Nat.mul_le_mul_right 20 hm20; omega) (by omega)
        rw [same_alk irr hrow2 hr] at hv
        simp only [execSs_cons, execSs_nil, wpS_bind, x_asg, wpS_bindS, v_call, vs_cons, vs_nil, v_var, List.getElem?_cons_zero, List.getElem?_cons_succ, List.set_cons_zero, List.set_cons_succ, bind_ok, sp_first_part (show 1 ≤ n - 1 by omega) (show r.length ≤ 1000 by omega) (show 0 < m by omega) (show m ≤ 1000 by omega), wp_ok, wpS_okS, a_var, wpS_nx, x_ite, t_cmp_, v_cmp, v_bin, v_con, bin_pw (show m ≤ 1000 by omega) (show (fpR r m).length ≤ 1000 by omega), ofO_some, ev, cmp_isN, ofB_some, truth_b]
        cases hb : isNone (.d v) with
        | true =>
          simp only [if_true, execSs_cons, execSs_nil, wpS_bind, x_ret, wpS_bindS, v_tup, vs_cons, vs_nil, v_call, v_var, List.getElem?_cons_zero, List.getElem?_cons_succ, bind_ok]
          rw [sp_least_of (by omega) (by omega)]
          simp
          have hal := (hv.mp hb).symm
          have hne : r ≠ [] := by intro e; rw [e] at hi; simp at hi
          exact q _ m (.inr ⟨hne, isRoot_of hne (by omega) hal hno⟩) hm20
        | false =>
          simp only [Bool.false_eq_true, if_false, execSs_nil, wpS_nx]
          refine next (fun u hu => ?_) _ _ _
          have h2 := (fp_root irr (by omega) hu).2
          have := hv.mpr ((pw_alk irr h2 m).trans hu.symm)
          rw [hb] at this; cases this
      · have hne' : (!((r.filter fun x => decide (r.count x % m ≠ 0)).map PyData.int).isEmpty) = true := by simpa using hf
        simp only [hne', Bool.not_true, Bool.false_eq_true, if_false, execSs_nil, wpS_nx]
        exact next (fun u hu => hf (hreach u hu)) _ _ _
    · intro x hx acc
      simp only [lcStep_eq, wipeE, a_var, List.set_cons_zero, List.set_cons_succ, lcA_ok, tests_one, t_bin_, v_bin, v_mth, v_var, vs_cons, vs_nil, List.getElem?_cons_zero, List.getElem?_cons_succ, bind_ok, recv_countT, if_true, mth_countT, mod_N (show 0 < m by omega), ofO_some, truth_I, lcT_ok, lcV_ok]
      by_cases h0 : r.count x % m = 0
      · simp [h0]
      · have h0' : (((r.count x % m : Nat) : Int) != 0) = true := by rw [bne_iff_ne]; omega
        simp only [h0', if_true]
        simp [h0]
    · omega
  · intro env Z hh
    obtain ⟨v2, v3, v4, hno, rfl, rfl⟩ := (hI _ _ _).mp hh
    apply hK
    simp only [execSs_cons, execSs_nil, wpS_bind, x_ret, wpS_bindS, v_tup, vs_cons, vs_nil, v_call, v_var, v_con, List.getElem?_cons_zero, List.getElem?_cons_succ, bind_ok]
    rw [sp_least_of (by omega) (by omega)]
    simp
    by_cases he : r = []
    · have := q [] 1 (.inl ⟨he, rfl, rfl⟩) (by omega)
      rw [he]
      exact this
    · refine q r 1 (.inr ⟨he, isRoot_of he (by omega) (by rw [pw_one]; exact .refl _) fun k u h1 h2 => hno k u ?_ h2⟩) (by omega)
      simp [rangeD]
      omega
end
end Law

set_option Elab.async false
set_option linter.all false
set_option autoImplicit false
set_option maxRecDepth 100000
set_option maxHeartbeats 4000000
/-! k17: the law's own root; power, parts; the law's run. -/
namespace Law
open PySem L2 Itp
theorem list_kv {S : Sto} {kvs : List (List Int × Nat)} : b1D S .list (.d (.dict (kvD kvs))) = some (.list ((kvs.map (·.1)).map T_)) := by
  show (keysD S (.d (.dict (kvD kvs)))).map PyData.list = _
  have e : seqOf S (.d (.dict (kvD kvs))) = none := rfl
  have e2 : dicOf S (.d (.dict (kvD kvs))) = some (kvD kvs) := by
    show (if noIns (kvD kvs) = true then some (kvD kvs) else none) = _
    rw [if_pos]
    cases kvs <;> rfl
  unfold keysD
  rw [e, e2]
  simp [kvD]
abbrev tm (t : List Int) (m : Nat) : D := .tuple [T_ t, .int (m : Nat)]
theorem eqVl_tm {S : Sto} (a b : List Int) (m k : Nat) : eqVl S (.d (tm a m)) (.d (tm b k)) = some (decide (a = b ∧ m = k)) := by
  have sh : ∀ (a : List Int) (m : Nat), Sh 2 (tm a m) := fun a m => sh_tup fun z hz => by
    simp at hz
    rcases hz with rfl | rfl
    · exact sh_T a
    · exact sh_int _ _
  have pl : ∀ (a : List Int) (m : Nat), plainD (tm a m) = true := fun a m => by
    rw [plain_tuple, plains_iff]
    intro z hz
    simp at hz
    rcases hz with rfl | rfl
    · exact pl_T a
    · rfl
  refine eqVl_of (sh a m) (sh b k) (by omega) (by omega) (pl a m) (pl b k) ?_
  constructor
  · intro h
    injection h with h
    injection h with h1 h2
    injection h2 with h2 _
    injection h2 with h2
    exact ⟨T_inj.mp h1, Int.ofNat.inj h2⟩
  · rintro ⟨rfl, rfl⟩; rfl
theorem eqVl_rowsN' {S : Sto} (a : List (List Int)) : eqVl S (.d (.list (a.map T_))) (.d (.list [])) = some (decide (a = [])) := eqVl_rows (S := S) a []
section
variable {n : Nat} {S : Sto}
theorem sp_law_root (hn : 4 ≤ n) {L : Nat} {ps : List (Int × Int)} (hp : Prs L ps) {r : List Int} (hr : Row L 8 r) {Q : Vl → Sto → Prop} (q : ∀ t m, RootOf ps r t m → m ≤ 20 → Q (.d (tm (leastR ps t) m)) S) :
    wp (runFn G 1000 n F__law_root [.d (Pp ps), .d (T_ r)] S) Q := by
  have irr := fun a => may_self hp a
  have hrl := hr.len
  rw [en__law_root (by omega), wp_endF]
  unfold ir__law_root
  refine seq fun K hK => ?_
  simp
  refine sp_class (by omega) hp hrl fun kvs hk => ?_
  apply hK
  refine seq fun K hK => ?_
  have hrv : ∀ env : Ev, env[1]? = some (some (.d (T_ r))) → evalI (runFn G 1000 (n - 1)) (.rngD (.b1 .len (.var 1)) (.con (.int 1))) env S = .ok (rangeD 2 ((r.length : Int) + 1)).reverse S := by
    intro env he
    simp only [i_rngD_, v_con, v_b1, v_var, he, bind_ok, b1_len, lenD_T, List.length_map, ofO_some]
    show (if rngOk (r.length : Int) 1 = true then Re.ok (rangeD ((1 : Int) + 1) ((r.length : Int) + 1)).reverse S else .er) = _
    rw [if_pos (rngOk_iff.mpr (by omega))]
    rfl
  rw [x_for, hrv _ rfl, wpS_bindS, wp_ok]
  obtain ⟨I, hI⟩ := mkI fun (i : Nat) env Z => ∃ (v3 v4 v5 v6 : Option Vl), (∀ k u, r.length - i < k → k ≤ r.length → ¬ Alk ps r (pw u k)) ∧ Z = S ∧ env = [some (.d (Pp ps)), some (.d (T_ r)), some (.d (.dict (kvD kvs))), v3, v4, v5, v6]
  refine wp_forD I ((hI _ _ _).mpr ⟨none, none, none, none, fun k u h1 h2 => by omega, rfl, rfl⟩) ?_ ?_
  · intro i x env Z hx hh
    obtain ⟨v3, v4, v5, v6, hno, rfl, rfl⟩ := (hI _ _ _).mp hh
    obtain ⟨hi, rfl⟩ := down_at hx
    generalize hm : r.length - i = m at hno
    have hm2 : 2 ≤ m := by omega
    have next : (∀ u, ¬ Alk ps r (pw u m)) → ∀ v3 v4 v5 v6, I (i + 1) [some (.d (Pp ps)), some (.d (T_ r)), some (.d (.dict (kvD kvs))), v3, v4, v5, v6] Z := by
      intro hnot v3 v4 v5 v6
      refine (hI _ _ _).mpr ⟨v3, v4, v5, v6, fun k u h1 h2 => ?_, rfl, rfl⟩
      rcases Nat.lt_or_ge m k with c | c
      · exact hno k u c h2
      · rw [show k = m by omega]; exact hnot u
    rw [a_var, wp_ok]
    simp only [execSs_cons, execSs_nil, wpS_bind, x_asg, wpS_bindS, v_bin, v_b1, v_var, List.getElem?_cons_zero, List.getElem?_cons_succ, List.set_cons_zero, List.set_cons_succ, bind_ok, b1_len, lenD_T, List.length_map, ofO_some, fdiv_N (show 0 < m by omega) (show m ≤ 1000 by omega), wp_ok, wpS_okS, a_var, wpS_nx]
    generalize hs : r.length / m = s
    have hs8 : s ≤ 8 := by rw [← hs]; exact Nat.le_trans (Nat.div_le_self _ _) hrl
    simp only [x_ite, wpS_bindS, t_cmp_, v_cmp, v_bin, v_b1, v_var, List.getElem?_cons_zero, List.getElem?_cons_succ, bind_ok, bin_mulN (show s ≤ 1000 by omega), b1_len, lenD_T, List.length_map, ofO_some, cmp_eq, eqVl_int, ofB_some, truth_b, wp_ok]
    have hul : ∀ u, Alk ps r (pw u m) → u.length = s ∧ s * m = r.length := by
      intro u hu
      have hl := hu.perm.length_eq
      rw [pw_len] at hl
      have h1 : r.length / m = u.length := by rw [hl, Nat.mul_div_cancel_left _ (by omega)]
      refine ⟨by rw [← hs, h1], ?_⟩
      rw [← hs, h1, hl, Nat.mul_comm]
    by_cases hsm : s * m = r.length
    · have hb : (((s * m : Nat) : Int) == ((r.length : Nat) : Int)) = true := by rw [beq_iff_eq]; omega
      simp only [hb, if_true]
      refine seq fun K2 hK2 => ?_
      simp only [x_asg, wpS_bindS, v_lc, i_var_, v_var, List.getElem?_cons_zero, List.getElem?_cons_succ, List.set_cons_zero, List.set_cons_succ, bind_ok, items_dic]
      rw [lc_map (g := fun h => T_ (h.take s)) (p := fun h => decide (pw (h.take s) m = h))]
      · simp only [wp_ok, wpS_okS, a_var, wpS_nx, List.set_cons_zero, List.set_cons_succ]
        apply hK2
        have hmap : (((kvs.map (·.1)).filter fun h => decide (pw (h.take s) m = h)).map fun h => T_ (h.take s)) = (((kvs.map (·.1)).filter fun h => decide (pw (h.take s) m = h)).map (List.take s)).map T_ := by
          rw [List.map_map]; rfl
        rw [hmap]
        generalize hF : ((kvs.map (·.1)).filter fun h => decide (pw (h.take s) m = h)).map (List.take s) = F
        have hFm : ∀ u ∈ F, Alk ps r (pw u m) := by
          intro u hu
          rw [← hF] at hu
          obtain ⟨h, hh, rfl⟩ := List.mem_map.mp hu
          obtain ⟨h1, h2⟩ := List.mem_filter.mp hh
          rw [of_decide_eq_true h2]
          exact hk.mem.mp h1
        have hFl : ∀ u, Alk ps r (pw u m) → leastR ps u ∈ F := by
          intro u hu
          rw [← hF]
          have hlu := (alk_least ps u).perm.length_eq
          have hsu := (hul u hu).1
          have ht : (pw (leastR ps u) m).take s = leastR ps u := by
            obtain ⟨k, rfl⟩ : ∃ k, m = k + 1 := ⟨m - 1, by omega⟩
            rw [pw_succ, List.take_left' (by omega)]
          refine List.mem_map.mpr ⟨pw (leastR ps u) m, List.mem_filter.mpr ⟨hk.mem.mpr (hu.trans (pw_alk irr (alk_least ps u) m)), ?_⟩, ht⟩
          rw [ht]
          simp
        simp only [execSs_cons, execSs_nil, wpS_bind, x_ite, wpS_bindS, t_cmp_, v_cmp, v_var, v_lst, vs_nil, allDat_nil, List.length_nil, inL0, if_true, List.getElem?_cons_zero, List.getElem?_cons_succ, bind_ok, cmp_ne, eqVl_rowsN', Option.map_some, ofB_some, truth_b, wp_ok]
        by_cases hE : F = []
        · simp only [hE, decide_true, Bool.not_true, Bool.false_eq_true, if_false, wpS_nx]
          refine next (fun u hu => ?_) _ _ _ _
          have := hFl u hu
          rw [hE] at this; cases this
        · simp only [decide_eq_false hE, Bool.not_false, if_true, execSs_cons, execSs_nil, wpS_bind, x_ret, wpS_bindS, v_tup, vs_cons, vs_nil, v_b1, v_var, List.getElem?_cons_zero, List.getElem?_cons_succ, bind_ok]
          obtain ⟨t, et, ht, hlow⟩ := min_T (S := Z) hE
          rw [et]
          have ha : ∀ y ∈ F, Alk ps t y := fun y hy => (fp_root irr (by omega) (hFm t ht)).2.symm.trans (fp_root irr (by omega) (hFm y hy)).2
          have := min_least irr ht hlow ha (hFl t (hFm t ht))
          simp
          rw [this]
          have hne : r ≠ [] := by intro e; rw [e] at hi; simp at hi
          exact q t m (.inr ⟨hne, isRoot_of hne (by omega) (hFm t ht) hno⟩) (by omega)
      · intro h hh acc
        have hal := hk.mem.mp hh
        have hhl := hal.perm.length_eq
        simp only [lcStep_eq, wipeE, a_var, List.set_cons_zero, List.set_cons_succ, lcA_ok, tests_one, t_cmp_, v_cmp, v_bin, v_slc, p_none, p_some, v_var, List.getElem?_cons_zero, List.getElem?_cons_succ, bind_ok, slc_T, ofO_some, cut_to, ← List.map_take]
        rw [bin_pw (by omega) (by rw [List.length_take]; omega)]
        simp only [ofO_some, bind_ok, cmp_eq, eqVl_T, ofB_some, truth_b, lcT_ok, lcV_ok]
        by_cases hd : pw (h.take s) m = h <;> simp [hd]
      · exact cls_keys hk hrl
    · have hb : (((s * m : Nat) : Int) == ((r.length : Nat) : Int)) = false := by rw [beq_eq_false_iff_ne]; omega
      simp only [hb, Bool.false_eq_true, if_false, execSs_nil, wpS_nx]
      exact next (fun u hu => hsm (hul u hu).2) _ _ _ _
  · intro env Z hh
    obtain ⟨v3, v4, v5, v6, hno, rfl, rfl⟩ := (hI _ _ _).mp hh
    apply hK
    have hne : kvs.map (·.1) ≠ [] := by
      intro z
      have := hk.mem.mpr (.refl r)
      rw [z] at this; cases this
    obtain ⟨t, et, ht, hlow⟩ := min_T (S := Z) hne
    have := min_least irr ht hlow (fun y hy => hk.mem.mp hy) (hk.mem.mpr (alk_least ps r))
    simp only [execSs_cons, execSs_nil, wpS_bind, x_ret, wpS_bindS, v_tup, vs_cons, vs_nil, v_b1, v_var, v_con, List.getElem?_cons_zero, List.getElem?_cons_succ, bind_ok, list_kv, ofO_some, et]
    simp
    rw [this]
    by_cases he : r = []
    · have := q [] 1 (.inl ⟨he, rfl, rfl⟩) (by omega)
      rw [he]
      exact this
    · refine q r 1 (.inr ⟨he, isRoot_of he (by omega) (by rw [pw_one]; exact .refl _) fun k u h1 h2 => hno k u ?_ h2⟩) (by omega)
      simp [rangeD]
      omega
/-- the root by the program, by the law: one value -/
theorem root_eq (hn : 6 ≤ n) {L : Nat} (hL : L ≤ 6) {ps : List (Int × Int)} (irr : ∀ a, may ps a a = false) {r : List Int} (hr : Row L 20 r) : ∃ t m, RootOf ps r t m ∧ m ≤ 20 ∧ ∀ S, runFn G 1000 n F_root [.d (tr L ps), .d (T_ r)] S = .ok (.d (tm (leastR ps t) m)) S := by
  obtain ⟨v, S0, e, t, m, h1, h2, rfl, rfl⟩ := wp_ex (sp_root (S := []) hn hL irr hr (Q := fun v S' => ∃ t m, RootOf ps r t m ∧ m ≤ 20 ∧ v = .d (tm (leastR ps t) m) ∧ S' = []) fun t m h1 h2 => ⟨t, m, h1, h2, rfl, rfl⟩)
  refine ⟨t, m, h1, h2, fun S => ?_⟩
  apply wp_eq
  refine sp_root hn hL irr hr fun t' m' h1' h2' => ?_
  obtain ⟨rfl, h4⟩ := rootOf_uniq irr h1 h1' (.refl r)
  rw [least_alk irr h4]
  exact ⟨rfl, rfl⟩
theorem sp_least17 (hn : 5 ≤ n) {L : Int} {ps : List (Int × Int)} {r : List Int} (h : Row L 20 r) : runFn G 1000 n F_least [.d (tr L ps), .d (T_ r)] S = .ok (.d (T_ (leastR ps r))) S := by
  rw [en_least (by omega)]
  have := h.len
  simp [ir_least, sp_check_row (show 4 ≤ n - 1 by omega) h, sp_least_of (show 3 ≤ n - 1 by omega) (show r.length ≤ 900 by omega)]
theorem sp_lpower (hn : 6 ≤ n) {L : Int} {ps : List (Int × Int)} {r : List Int} (h : Row L 20 r) {m : Nat} (hm : m ≤ 20) : runFn G 1000 n F__law_power [.d (tr L ps), .d (T_ r), .d (.int (m : Nat))] S = .ok (.d (if r.length * m ≤ 20 then T_ (leastR ps (pw r m)) else .none)) S := by
  have hl := h.len
  rw [en__law_power (by omega)]
  have hpl := pw_len r m
  have key : runFn G 1000 (n - 1) F_power [.d (tr L ps), .d (T_ r), .d (.int (m : Nat))] S = if r.length * m ≤ 20 then .ok (.d (T_ (leastR ps (pw r m)))) S else .ex 7 [] S := by
    rw [en_power (by omega)]
    unfold ir_power
    have hf : ∀ S', runFn G 1000 (n - 1 - 1) F_is_from [.d (.int (m : Nat)), .d (.int 0), .d (.int 20)] S' = .ok (.d (.bool true)) S' := by
      intro S'
      rw [sp_is_from (by omega), decide_eq_true (by omega)]
    by_cases hc : r.length * m ≤ 20
    · have hc' : ¬ (20 : Int) < ((r.length * m : Nat) : Int) := by omega
      have hpw : (pw r m).length ≤ 900 := by rw [pw_len, Nat.mul_comm]; omega
      simp [sp_check_row (show 4 ≤ n - 1 - 1 by omega) h, hf, bin_mulN (show r.length ≤ 1000 by omega), hc, bin_pw (show m ≤ 1000 by omega) (show r.length ≤ 1000 by omega), -Int.natCast_mul]
      rw [if_neg (by omega), sp_least_of (by omega) hpw]
      simp
    · have hc' : (20 : Int) < ((r.length * m : Nat) : Int) := by omega
      simp [sp_check_row (show 4 ≤ n - 1 - 1 by omega) h, hf, bin_mulN (show r.length ≤ 1000 by omega), hc, Nat.beq, -Int.natCast_mul]
      intro h3
      exact absurd h3 (by omega)
  by_cases hc : r.length * m ≤ 20
  · rw [if_pos hc] at key ⊢
    simp [ir__law_power, key]
  · rw [if_neg hc] at key ⊢
    simp [ir__law_power, key, List.lookup]
theorem sp_parts17 (hn : 5 ≤ n) {L : Int} {ps : List (Int × Int)} {r : List Int} (h : Row L 20 r) : ∃ l : List (List Int), l.length = (grpR ps (srtU r)).length ∧ ∀ S, runFn G 1000 n F_parts [.d (tr L ps), .d (T_ r)] S = .ok (.d (.list (l.map T_))) S := by
  have hl := h.len
  have h1 := srtU_len r
  have h2 : (grpR ps (srtU r)).length ≤ (srtU r).length := by
    have key : ∀ (l : List Int) (acc : List (List Int)), (l.foldl (addG ps) acc).length ≤ acc.length + l.length := by
      intro l
      induction l with
      | nil => intro acc; simp
      | cons x l ih =>
        intro acc
        have h1 := ih (addG ps acc x)
        have h2 := addG_len ps x acc
        rw [List.foldl_cons, List.length_cons]
        omega
    have := key (srtU r) []
    simpa [grpR] using this
  refine ⟨sortR ((grpR ps (srtU r)).map fun g => leastR ps (r.filter fun x => decide (x ∈ g))), by rw [(sortR_perm_self _).length_eq, List.length_map], fun S => ?_⟩
  rw [en_parts (by omega)]
  simp [ir_parts, sp_check_row (show 4 ≤ n - 1 by omega) h, sp_groups_of (show 2 ≤ n - 1 by omega) (show r.length < 64 by omega)]
  rw [lc_all (g := fun g => T_ (leastR ps (r.filter fun x => decide (x ∈ g))))]
  · have e : (grpR ps (srtU r)).map (fun g => T_ (leastR ps (r.filter fun x => decide (x ∈ g)))) = ((grpR ps (srtU r)).map fun g => leastR ps (r.filter fun x => decide (x ∈ g))).map T_ := by
      rw [List.map_map]
      rfl
    rw [e]
    generalize ((grpR ps (srtU r)).map fun g => leastR ps (r.filter fun x => decide (x ∈ g))) = gl
    simp [sorted_T]
  · intro g hg acc
    have := List.length_filter_le (fun x => decide (x ∈ g)) r
    simp [lcStep_eq, wipeE, sp_only_in (show 1 ≤ n - 1 by omega) (show r.length ≤ 50000 by omega), sp_least_of (show 3 ≤ n - 1 by omega) (show (r.filter fun x => decide (x ∈ g)).length ≤ 900 by omega)]
  · omega
theorem hangs_of {L : Int} {ps : List (Int × Int)} (hp : Prs L ps) {r : List Int} (h : (grpR ps (srtU r)).length = 1) : Hangs ps r := by
  have hn : (srtU r).Nodup := by
    rw [List.nodup_iff_pairwise_ne]
    exact (srtU_asc r).imp fun h e => by omega
  have hl := lots_grp hp (srtU r) hn
  obtain ⟨g, hg⟩ : ∃ g, grpR ps (srtU r) = [g] := List.length_eq_one_iff.mp h
  rw [hg] at hl
  have hin : ∀ x ∈ r, x ∈ g := fun x hx => by
    obtain ⟨g', hg', hx'⟩ := hl.cov x (srtU_mem.mpr hx)
    simp at hg'
    rw [hg'] at hx'
    exact hx'
  refine ⟨?_, fun x hx y hy => (hl.con g (by simp) x (hin x hx) y (hin y hy)).mono fun z hz => srtU_mem.mp hz⟩
  intro e
  obtain ⟨x, hx⟩ := List.exists_mem_of_ne_nil _ (hl.ne g (by simp))
  have := hl.sub g (by simp) x hx
  rw [srtU_mem, e] at this
  cases this
theorem sp_either17 (hn : 6 ≤ n) {L : Nat} (hL : L ≤ 6) {ps : List (Int × Int)} (irr : ∀ a, may ps a a = false) {r s : List Int} (h : Row L 20 r) (h' : Row L 20 s) : ∃ b, (b = true ↔ Alk ps (r ++ s) (s ++ r)) ∧ runFn G 1000 n F_either_way [.d (tr L ps), .d (T_ r), .d (T_ s)] S = .ok (.d (.bool b)) S := by
  have l1 := h.len
  have l2 := h'.len
  have ra : Row L 40 (r ++ s) := ⟨by rw [List.length_append]; omega, fun x hx => (List.mem_append.mp hx).elim (h.low x) (h'.low x), fun x hx => (List.mem_append.mp hx).elim (h.high x) (h'.high x)⟩
  have rb : Row L 40 (s ++ r) := ⟨by rw [List.length_append]; omega, fun x hx => (List.mem_append.mp hx).elim (h'.low x) (h.low x), fun x hx => (List.mem_append.mp hx).elim (h'.high x) (h.high x)⟩
  obtain ⟨v, e, hv⟩ := sp_bar_of (n := n - 1) (S := S) (by omega) (show L ≤ 1000 by omega) (ps := ps) (one := r ++ s) (other := s ++ r) (by have := ra.len; omega) (by have := rb.len; omega)
  refine ⟨isNone (.d v), ?_, ?_⟩
  · rw [hv]; exact same_alk irr ra rb
  · have c1 : ∀ S, binD S .add (.d (T_ r)) (.d (T_ s)) = some (T_ (r ++ s)) := fun S => by rw [bin_catT (by simp; omega), ← List.map_append]
    have c2 : ∀ S, binD S .add (.d (T_ s)) (.d (T_ r)) = some (T_ (s ++ r)) := fun S => by rw [bin_catT (by simp; omega), ← List.map_append]
    rw [en_either_way (by omega)]
    simp [ir_either_way, sp_check_rows (show 5 ≤ n - 1 by omega) h h', c1, c2, e, -List.map_append]
end
end Law

set_option Elab.async false
set_option linter.all false
set_option autoImplicit false
set_option maxRecDepth 100000
set_option maxHeartbeats 4000000
/-! k17: the law's run. -/
namespace Law
open PySem L2 Itp
theorem Row.more {L : Int} {m k : Nat} {r : List Int} (h : Row L m r) (hk : m ≤ k) : Row L k r := ⟨Nat.le_trans h.len hk, h.low, h.high⟩
theorem eqVl_Tnone {S : Sto} : eqVl S (.d .none) (.d .none) = some true := rfl
theorem eqVl_TN {S : Sto} (a : List Int) : eqVl S (.d (T_ a)) (.d (.tuple [])) = some (decide (a = [])) := eqVl_T (S := S) a []
def freeR (ps : List (Int × Int)) (u v : List Int) : Bool := decide (u.filter (fun x => decide (v.filter (fun y => !may ps x y) ≠ [])) = [])
theorem free_iff {ps : List (Int × Int)} {u v : List Int} : freeR ps u v = true ↔ ∀ x ∈ u, ∀ y ∈ v, may ps x y = true := by
  unfold freeR
  rw [decide_eq_true_iff, List.filter_eq_nil_iff]
  constructor
  · intro h x hx y hy
    have h1 := h x hx
    have h2 : v.filter (fun y => !may ps x y) = [] := by simpa using h1
    rw [List.filter_eq_nil_iff] at h2
    simpa using h2 y hy
  · intro h x hx
    have : v.filter (fun y => !may ps x y) = [] := by
      rw [List.filter_eq_nil_iff]
      intro y hy
      simp [h x hx y hy]
    simp [this]
section
variable {n : Nat} {S : Sto}
theorem last_run (hn : 8 ≤ n) {L : Nat} (hL : L ≤ 6) {ps : List (Int × Int)} (hp : Prs L ps) {one other : List Int} (h1 : Row L 20 one) (h2 : Row L 20 other) {v0 v1 v2 v5 v6 v7 v8 v9 v10 v11 v14 v15 v16 : Option Vl} {Z : Sto} :
    wpS (execSs (runFn G 1000 n) 1000 [(.ite (.or (.cmp .ne (.b1 .len (.call F_parts [(.var 4), (.var 12)])) (.con (.int 1))) (.cmp .ne (.b1 .len (.call F_parts [(.var 4), (.var 13)])) (.con (.int 1)))) [(.ret (.con (.bool true)))] []), (.asg (.var 14) (.cmp .eq (.lc [15] (.var 15) (.var 15) (.var 12) [(.cmp .ne (.lc [16] (.var 16) (.var 16) (.var 13) [(.not (.call F__law_may [(.var 3), (.var 15), (.var 16)]))]) (.lst []))]) (.lst []))), (.ret (.cmp .eq (.call F_either_way [(.var 4), (.var 12), (.var 13)]) (.or (.var 14) (.cmp .eq (.sub (.call F_root [(.var 4), (.var 12)]) (.con (.int 0))) (.sub (.call F_root [(.var 4), (.var 13)]) (.con (.int 0)))))))] [v0, v1, v2, some (.d (Pp ps)), some (.d (tr L ps)), v5, v6, v7, v8, v9, v10, v11, some (.d (T_ one)), some (.d (T_ other)), v14, v15, v16] Z) (fun _ _ => False) (fun _ _ => False) (fun _ _ => False) (fun v _ => v = .d (.bool true)) := by
  have irr := fun a => may_self hp a
  have l1 := h1.len
  have l2 := h2.len
  obtain ⟨p1, hp1, e1⟩ := sp_parts17 (n := n) (by omega) (ps := ps) h1
  obtain ⟨p2, hp2, e2⟩ := sp_parts17 (n := n) (by omega) (ps := ps) h2
  refine seq fun K hK => ?_
  by_cases g1 : p1.length = 1
  · by_cases g2 : p2.length = 1
    · have f1 : ∀ S, evalE (runFn G 1000 n) (.cmp .ne (.b1 .len (.call F_parts [(.var 4), (.var 12)])) (.con (.int 1))) [v0, v1, v2, some (.d (Pp ps)), some (.d (tr L ps)), v5, v6, v7, v8, v9, v10, v11, some (.d (T_ one)), some (.d (T_ other)), v14, v15, v16] S = .ok (.d (.bool false)) S := fun S => by simp [e1, g1]
      have f2 : ∀ S, evalE (runFn G 1000 n) (.cmp .ne (.b1 .len (.call F_parts [(.var 4), (.var 13)])) (.con (.int 1))) [v0, v1, v2, some (.d (Pp ps)), some (.d (tr L ps)), v5, v6, v7, v8, v9, v10, v11, some (.d (T_ one)), some (.d (T_ other)), v14, v15, v16] S = .ok (.d (.bool false)) S := fun S => by simp [e2, g2]
      simp only [x_ite, t_or_, t_cmp_, f1, f2, bind_ok, truth_b, Bool.false_eq_true, if_false, wpS_bindS, wp_ok, execSs_nil, wpS_nx]
      apply hK
      have c1 := hangs_of hp (r := one) (by rw [← hp1]; exact g1)
      have c2 := hangs_of hp (r := other) (by rw [← hp2]; exact g2)
      refine seq fun K2 hK2 => ?_
      simp only [x_asg, wpS_bindS, v_cmp, v_lc, i_var_, v_var, List.getElem?_cons_zero, List.getElem?_cons_succ, List.set_cons_zero, List.set_cons_succ, bind_ok, items_T]
      have eL : ∀ (S : Sto) (l : List Int), eqVl S (.d (.list (l.map .int))) (.d (.list [])) = some (decide (l = [])) := fun S l => eqVl_L l []
      rw [lc_map (g := PyData.int) (p := fun x => decide (other.filter (fun y => !may ps x y) ≠ []))]
      · simp only [bind_ok, v_lst, vs_nil, allDat_nil, List.length_nil, inL0, if_true, cmp_eq, eL, ofB_some, wp_ok, wpS_okS, a_var, wpS_nx, List.set_cons_zero, List.set_cons_succ]
        apply hK2
        rw [show decide (one.filter (fun x => decide (other.filter (fun y => !may ps x y) ≠ [])) = []) = freeR ps one other from rfl]
        obtain ⟨b, hb, eb⟩ := sp_either17 (n := n) (S := Z) (by omega) hL irr h1 h2
        obtain ⟨t, m, r1, _, er1⟩ := root_eq (n := n) (by omega) hL irr h1
        obtain ⟨t', m', r2, _, er2⟩ := root_eq (n := n) (by omega) hL irr h2
        have R1 : IsRoot ps one t m := by
          rcases r1 with ⟨z, _⟩ | ⟨_, h⟩
          · exact (c1.1 z).elim
          · exact h
        have R2 : IsRoot ps other t' m' := by
          rcases r2 with ⟨z, _⟩ | ⟨_, h⟩
          · exact (c2.1 z).elim
          · exact h
        cases hf : freeR ps one other with
        | true =>
          have : b = true := hb.mpr (free_comm irr (free_iff.mp hf))
          subst this
          simp [eb]
        | false =>
          have hb2 : b = decide (leastR ps t = leastR ps t') := by
            rw [Bool.eq_iff_iff, hb, decide_eq_true_iff, least_iff irr]
            constructor
            · intro hc
              have hnf : ¬ ∀ x ∈ one, ∀ y ∈ other, may ps x y = true := fun h => by rw [free_iff.mpr h] at hf; cases hf
              obtain ⟨x, hx⟩ := Classical.not_forall.mp hnf
              obtain ⟨hx1, hx⟩ := Classical.not_imp.mp hx
              obtain ⟨y, hy⟩ := Classical.not_forall.mp hx
              obtain ⟨hy1, hy⟩ := Classical.not_imp.mp hy
              exact same_root irr hc c1 c2 hx1 hy1 (by simpa using hy) R1 R2
            · intro ht
              exact root_comm irr R1 R2 ht
          simp [eb, er1, er2, hb2]
      · intro x hx acc
        simp only [lcStep_eq, wipeE, a_var, List.set_cons_zero, List.set_cons_succ, lcA_ok, tests_one, t_cmp_, v_cmp, v_lc, i_var_, v_var, List.getElem?_cons_zero, List.getElem?_cons_succ, bind_ok, items_T]
        rw [lc_map (g := PyData.int) (p := fun y => !may ps x y)]
        · simp only [bind_ok, v_lst, vs_nil, allDat_nil, List.length_nil, inL0, if_true, cmp_ne, eL, Option.map_some, ofB_some, truth_b, lcT_ok, lcV_ok]
          by_cases hd : other.filter (fun y => !may ps x y) = [] <;> simp [hd]
        · intro y hy acc'
          simp [lcStep_eq, wipeE, sp_law_may (show 1 ≤ n by omega) hp]
          cases may ps x y <;> rfl
        · omega
      · omega
    · have g2' : ¬ ((p2.length : Nat) : Int) = 1 := by omega
      simp [e1, e2, g1, g2']
  · have g1' : ¬ ((p1.length : Nat) : Int) = 1 := by omega
    simp [e1, g1']
theorem plainN (hn : 20 ≤ n) (ns : List Int) (h : ns.length ≤ 63) : wp (runFn G 1000 n F_law [.s ns] []) fun v _ => v = .d (.bool true) := by
  rw [en_law (by omega), wp_endF]
  unfold ir_law
  refine seq fun K hK => ?_
  simp
  refine sp_mix (by omega) (by omega) fun o ho => ?_
  apply hK
  refine seq fun K hK => ?_
  simp
  refine sp_next (by omega) ho (by omega) (by omega) fun l0 o ho a0 a1 => ?_
  obtain ⟨L, hL⟩ : ∃ L : Nat, 1 + l0 = (L : Int) := ⟨(1 + l0).toNat, by omega⟩
  simp [hL]
  apply hK
  refine seq fun K hK => ?_
  simp
  refine sp_pairs (by omega) ho (by omega) fun ps o ho hp => ?_
  have irr := fun a => may_self hp a
  apply hK
  refine seq fun K hK => ?_
  simp [sp_Trade_mk (show 4 ≤ n - 1 by omega) (show (1 : Int) ≤ L by omega) (show (L : Int) ≤ 6 by omega) hp]
  apply hK
  refine seq fun K hK => ?_
  simp
  refine sp_row (m := 3) (by omega) ho (by omega) (by omega) (by omega) fun base o ho hb => ?_
  have lb := hb.len
  have hb20 : Row L 20 base := hb.more (by omega)
  apply hK
  refine seq fun K hK => ?_
  simp
  refine sp_next (by omega) ho (by omega) (by omega) fun z o ho z0 z1 => ?_
  obtain ⟨j, hj0, hj, hat⟩ : ∃ j : Nat, 0 < j ∧ j ≤ 3 ∧ atI [PyData.int 1, .int 2, .int 2, .int 3] z = some (.int (j : Nat)) := by
    have hc : z = 0 ∨ z = 1 ∨ z = 2 ∨ z = 3 := by omega
    rcases hc with rfl | rfl | rfl | rfl
    · exact ⟨1, by omega, by omega, rfl⟩
    · exact ⟨2, by omega, by omega, rfl⟩
    · exact ⟨2, by omega, by omega, rfl⟩
    · exact ⟨3, by omega, by omega, rfl⟩
  rw [subD_list, hat]
  simp only [ofO_some, wp_ok]
  rw [bin_pw (by omega) (by omega)]
  simp only [ofO_some, wp_ok]
  have hbj := row_pw hb j
  have hbjl : (pw base j).length ≤ 9 := by rw [pw_len]; exact Nat.mul_le_mul hj lb
  refine sp_shaken (t := 12) (by omega) ho hp (by omega) (by omega) fun sh o ho hsh => ?_
  have e6 : cutL (sh.map PyData.int) none (some 6) = (sh.take 6).map .int := by rw [List.map_take]; exact cut_to _ 6
  simp [e6, -List.map_take]
  have hsh1 : Row L (j * 3) sh := hbj.perm hsh.perm
  have hrow : Row L 6 (sh.take 6) := ⟨by rw [List.length_take]; omega, fun x hx => hsh1.low x (List.mem_of_mem_take hx), fun x hx => hsh1.high x (List.mem_of_mem_take hx)⟩
  generalize sh.take 6 = row at hrow
  have lr := hrow.len
  have hr20 : Row L 20 row := hrow.more (by omega)
  apply hK
  refine seq fun K hK => ?_
  obtain ⟨t, m, hroot, hm20, eroot⟩ := root_eq (n := n - 1) (by omega) (show L ≤ 6 by omega) irr hr20
  simp only [x_ite, wpS_bindS, t_cmp_, v_cmp, v_call, vs_cons, vs_nil, v_var, List.getElem?_cons_zero, List.getElem?_cons_succ, bind_ok, eroot, wp_bind]
  refine sp_law_root (by omega) hp (hrow.more (by omega)) fun t' m' hroot' hm' => ?_
  obtain ⟨rfl, htt⟩ := rootOf_uniq irr hroot hroot' (.refl row)
  simp only [cmp_ne, eqVl_tm, least_alk irr htt, and_self, decide_true, Option.map_some, Bool.not_true, ofB_some, truth_b, wp_ok, Bool.false_eq_true, if_false, execSs_nil, wpS_nx]
  apply hK
  refine seq fun K hK => ?_
  simp
  refine sp_next (by omega) ho (by omega) (by omega) fun k0 o ho c0 c1 => ?_
  obtain ⟨k, rfl⟩ := Int.eq_ofNat_of_zero_le c0
  apply hK
  refine seq fun K hK => ?_
  have hpk : (pw base k).length = k * base.length := pw_len _ _
  -- due
  have hdue : wpS (execS (runFn G 1000 (n - 1)) 1000 (.asg (.var 8) (.ife (.cmp .le (.bin .mul (.b1 .len (.var 5)) (.var 7)) (.con (.int 20))) (.call F_least [(.var 4), (.bin .mul (.var 5) (.var 7))]) (.con .none))) [some (.s ns), some (.r 0), some (.d (.int L)), some (.d (Pp ps)), some (.d (tr L ps)), some (.d (T_ base)), some (.d (T_ row)), some (.d (.int (k : Nat))), none, none, none, none, none, none, none, none, none] [o]) (fun e S => e = [some (.s ns), some (.r 0), some (.d (.int L)), some (.d (Pp ps)), some (.d (tr L ps)), some (.d (T_ base)), some (.d (T_ row)), some (.d (.int (k : Nat))), some (.d (if base.length * k ≤ 20 then T_ (leastR ps (pw base k)) else .none)), none, none, none, none, none, none, none, none] ∧ S = [o]) (fun _ _ => False) (fun _ _ => False) (fun _ _ => False) := by
    by_cases hc : base.length * k ≤ 20
    · have hc' : ((base.length * k : Nat) : Int) ≤ 20 := by omega
      have hrp : Row L 20 (pw base k) := ⟨by rw [hpk, Nat.mul_comm]; exact hc, (row_pw hb k).low, (row_pw hb k).high⟩
      simp [bin_mulN (show base.length ≤ 1000 by omega), hc, hc', bin_pw (show k ≤ 1000 by omega) (show base.length ≤ 1000 by omega), sp_least17 (show 5 ≤ n - 1 by omega) hrp, -Int.natCast_mul]
    · have hc' : ¬ ((base.length * k : Nat) : Int) ≤ 20 := by omega
      simp [bin_mulN (show base.length ≤ 1000 by omega), hc, hc', -Int.natCast_mul]
  refine wpS_imp hdue ?_ (fun _ _ h => h.elim) (fun _ _ h => h.elim) (fun _ _ h => h.elim)
  rintro e S ⟨rfl, rfl⟩
  apply hK
  refine seq fun K hK => ?_
  simp only [x_asg, wpS_bindS, v_call, vs_cons, vs_nil, v_var, List.getElem?_cons_zero, List.getElem?_cons_succ, List.set_cons_zero, List.set_cons_succ, bind_ok, sp_lpower (show 6 ≤ n - 1 by omega) hb20 (show k ≤ 20 by omega), wp_ok, wpS_okS, a_var, wpS_nx]
  apply hK
  refine seq fun K hK => ?_
  have esame : ∀ S, eqVl S (.d (if base.length * k ≤ 20 then T_ (leastR ps (pw base k)) else .none)) (.d (if base.length * k ≤ 20 then T_ (leastR ps (pw base k)) else .none)) = some true := by
    intro S
    split
    · rw [eqVl_T]; simp
    · rfl
  simp only [x_ite, wpS_bindS, t_cmp_, v_cmp, v_var, List.getElem?_cons_zero, List.getElem?_cons_succ, bind_ok, cmp_ne, esame, Option.map_some, Bool.not_true, ofB_some, truth_b, wp_ok, Bool.false_eq_true, if_false, execSs_nil, wpS_nx]
  apply hK
  refine seq fun K hK => ?_
  have fin : ∀ (o : O) (v10 v11 : Option Vl), isSrc o → K [some (.s ns), some (.r 0), some (.d (.int L)), some (.d (Pp ps)), some (.d (tr L ps)), some (.d (T_ base)), some (.d (T_ row)), some (.d (.int (k : Nat))), some (.d (if base.length * k ≤ 20 then T_ (leastR ps (pw base k)) else .none)), some (.d (if base.length * k ≤ 20 then T_ (leastR ps (pw base k)) else .none)), v10, v11, none, none, none, none, none] [o] := by
    intro o v10 v11 ho
    apply hK
    refine seq fun K hK => ?_
    simp
    refine sp_next (by omega) ho (by omega) (by omega) fun q0 o ho d0 d1 => ?_
    obtain ⟨q, hq⟩ : ∃ q : Nat, 1 + q0 = (q : Int) := ⟨(1 + q0).toNat, by omega⟩
    simp [hq]
    rw [bin_pw (by omega) (by omega)]
    simp only [ofO_some, wp_ok]
    have hql : (pw base q).length ≤ 6 := by
      rw [pw_len]
      have : q ≤ 2 := by omega
      exact Nat.mul_le_mul this lb
    refine sp_shaken (t := 6) (by omega) ho hp (by omega) (by omega) fun other o ho hoth => ?_
    have hot : Row L 20 other := (Row.mk (by omega) (row_pw hb q).low (row_pw hb q).high : Row L 20 (pw base q)).perm hoth.perm
    simp [Nat.beq]
    apply hK
    refine seq fun K hK => ?_
    have fin2 : ∀ (other : List Int) (o : O), isSrc o → Row L 20 other → K [some (.s ns), some (.r 0), some (.d (.int L)), some (.d (Pp ps)), some (.d (tr L ps)), some (.d (T_ base)), some (.d (T_ row)), some (.d (.int (k : Nat))), some (.d (if base.length * k ≤ 20 then T_ (leastR ps (pw base k)) else .none)), some (.d (if base.length * k ≤ 20 then T_ (leastR ps (pw base k)) else .none)), v10, v11, some (.d (T_ row)), some (.d (T_ other)), none, none, none] [o] := by
      intro other o ho hot
      apply hK
      refine wpS_imp (last_run (n := n - 1) (by omega) (show L ≤ 6 by omega) hp hr20 hot) (fun _ _ h => h.elim) (fun _ _ h => h.elim) (fun _ _ h => h.elim) ?_
      rintro v S rfl
      rfl
    simp
    refine sp_next (by omega) ho (by omega) (by omega) fun y o ho _ _ => ?_
    by_cases hy : y = 0
    · simp [hy]
      refine sp_row (m := 4) (by omega) ho (by omega) (by omega) (by omega) fun other2 o ho hb2 => ?_
      exact fin2 other2 o ho (hb2.more (by omega))
    · simp [hy]
      exact fin2 other o ho hot
  by_cases hc : base.length * k ≤ 20
  · rw [if_pos hc] at fin ⊢
    have nn : ∀ (S : Sto) (t : List Int), cmpD S .notN (.d (T_ t)) (.d .none) = some true := fun _ _ => rfl
    by_cases hk0 : 0 < k
    · by_cases hbe : base = []
      · have hk0' : (0 : Int) < (k : Int) := by omega
        simp only [x_ite, wpS_bindS, t_and_, t_cmp_, v_cmp, v_var, v_con, v_tup, vs_nil, allDat_nil, List.length_nil, inL0, if_true, List.getElem?_cons_zero, List.getElem?_cons_succ, bind_ok, nn, cmp_gt, hk0', decide_true, cmp_ne, eqVl_TN, decide_eq_true hbe, Option.map_some, Bool.not_true, ofB_some, truth_b, wp_ok, Bool.false_eq_true, if_false, execSs_nil, wpS_nx]
        exact fin o _ _ ho
      · have hk0' : (0 : Int) < (k : Int) := by omega
        obtain ⟨t2, m2, hroot2, hm2, eroot2⟩ := root_eq (n := n - 1) (by omega) (show L ≤ 6 by omega) irr hb20
        have R2 : IsRoot ps base t2 m2 := by
          rcases hroot2 with ⟨z, _⟩ | ⟨_, h⟩
          · exact (hbe z).elim
          · exact h
        simp only [x_ite, wpS_bindS, t_and_, t_cmp_, v_cmp, v_var, v_con, v_tup, vs_nil, allDat_nil, List.length_nil, inL0, if_true, List.getElem?_cons_zero, List.getElem?_cons_succ, bind_ok, nn, cmp_gt, hk0', decide_true, cmp_ne, eqVl_TN, decide_eq_false hbe, Option.map_some, Bool.not_false, ofB_some, truth_b, wp_ok]
        refine seq fun K2 hK2 => ?_
        simp only [x_asg, wpS_bindS, v_call, vs_cons, vs_nil, v_var, List.getElem?_cons_zero, List.getElem?_cons_succ, bind_ok, eroot2, wp_ok, wpS_okS, a_tup, tupT_tup, List.length_cons, List.length_nil, Nat.zero_add, Nat.reduceAdd, Nat.beq, if_true, asgs_cons, asgs_nil, a_var, List.set_cons_zero, List.set_cons_succ, wpS_nx]
        apply hK2
        have hdl : (leastR ps (pw base k)).length ≤ 20 := by
          rw [← (alk_least ps (pw base k)).perm.length_eq, hpk, Nat.mul_comm]; exact hc
        have hrd : Row L 20 (leastR ps (pw base k)) := (Row.mk (by rw [hpk, Nat.mul_comm]; exact hc) (row_pw hb k).low (row_pw hb k).high : Row L 20 (pw base k)).perm (alk_least ps _).perm
        simp only [execSs_cons, execSs_nil, wpS_bind, x_ite, wpS_bindS, t_cmp_, v_cmp, v_call, vs_cons, vs_nil, v_var, v_con, List.getElem?_cons_zero, List.getElem?_cons_succ, bind_ok, wp_bind]
        refine sp_shaken (t := 20) (by omega) ho hp (by omega) (by omega) fun sh2 o ho hsh2 => ?_
        have hrs : Row L 20 sh2 := hrd.perm hsh2.perm
        obtain ⟨t3, m3, hroot3, hm3, eroot3⟩ := root_eq (n := n - 1) (by omega) (show L ≤ 6 by omega) irr hrs
        have hne3 : pw base k ≠ [] := by
          intro z
          have h0 : (pw base k).length = 0 := by rw [z]; rfl
          rw [hpk] at h0
          have hbl := List.length_pos_iff.mpr hbe
          have := Nat.mul_pos hk0 hbl
          omega
        obtain ⟨e3, a3⟩ := rootOf_uniq irr hroot3 (.inr ⟨hne3, root_pow irr hbe hk0 R2⟩) (hsh2.symm.trans (alk_least ps _).symm)
        simp only [wp_ok, eroot3, wp_bind, bind_ok, v_tup, vs_cons, vs_nil, v_bin, v_var, List.getElem?_cons_zero, List.getElem?_cons_succ, bin_mulN (show m2 ≤ 1000 by omega), ofO_some, allDat_cons, allDat_nil, Option.map_some, List.length_cons, List.length_nil, Nat.zero_add, Nat.reduceAdd, inL2, if_true, cmp_ne, eqVl_tm, e3, least_alk irr a3, and_self, decide_true, Bool.not_true, ofB_some, truth_b, Bool.false_eq_true, if_false, wpS_nx]
        exact fin o _ _ ho
    · have hk0' : ¬ (0 : Int) < (k : Int) := by omega
      simp only [x_ite, wpS_bindS, t_and_, t_cmp_, v_cmp, v_var, v_con, List.getElem?_cons_zero, List.getElem?_cons_succ, bind_ok, nn, cmp_gt, hk0', decide_false, ofB_some, truth_b, wp_ok, if_true, Bool.false_eq_true, if_false, execSs_nil, wpS_nx]
      exact fin o _ _ ho
  · rw [if_neg hc] at fin ⊢
    have nn : ∀ (S : Sto), cmpD S .notN (.d .none) (.d .none) = some false := fun _ => rfl
    simp only [x_ite, wpS_bindS, t_and_, t_cmp_, v_cmp, v_var, v_con, List.getElem?_cons_zero, List.getElem?_cons_succ, bind_ok, nn, ofB_some, truth_b, wp_ok, Bool.false_eq_true, if_false, execSs_nil, wpS_nx]
    exact fin o _ _ ho
theorem plain (ns : List Int) (h : ns.length ≤ 63) : ∃ S, runFn G 1000 (30 + 1) F_law [.s ns] [] = .ok (.d (.bool true)) S := by
  obtain ⟨v, S, e, rfl⟩ := wp_ex (plainN (n := 30 + 1) (by omega) ns h)
  exact ⟨S, e⟩
end
end Law

set_option Elab.async false
set_option linter.all false
set_option autoImplicit false
set_option maxRecDepth 100000
set_option maxHeartbeats 0
namespace Law
open PySem L2 Itp
open PyProof.Rows (envOfC)
def top (i : Nat) : Stmt := PySem.Challenge.pw_placetrade_k17_whole_roots_and_powers.main.body.getD i (.Pass ⟨0, 0, 0, 0⟩)
theorem room1 {k : Nat} {A : Around} (r : Room (k + 1) A) : Room k A := r.mono (Nat.le_succ _)
theorem room64 {k : Nat} {A : Around} (r : Room k A) : A.units + 64 < cLine := by have := r.un; omega
theorem room65 {k : Nat} {A : Around} (r : Room k A) : A.units + 65 < cLine := by have := r.un; omega
theorem room0 {k : Nat} {A : Around} (r : Room k A) : A.units < cLine := by have := r.un; omega
abbrev tt (K : PySem.W.Frag) : Ct := ctOf ["Trade", "TradeError", "BadLetters", "BadPairs", "BadTrade", "BadRow", "BadNumber", "TooLong"] [["held"], [], [], ["index"], [], [], [], []] K
def fa : List He.Fa := [.free "isinstance", .free "int", .free "bool", .free "tuple", .free "len", .free "enumerate", .free "min", .free "max", .free "range", .free "sorted", .free "set", .free "reversed", .free "list", .glo "is_integer", .glo "is_from", .glo "BadLetters", .glo "is_pair", .glo "Trade", .glo "BadTrade", .glo "check_trade", .glo "is_row", .glo "BadRow", .glo "check_row", .glo "may", .glo "only", .glo "first_unlike", .glo "first_places", .glo "without", .glo "least_of", .glo "groups_of", .glo "BadNumber", .glo "TooLong", .glo "first_part", .glo "bar_of", .glo "check_rows", .glo "_law_next", .glo "_law_may", .glo "_law_class", .glo "power", .glo "BadPairs", .glo "_law_mix", .glo "_law_pairs", .glo "_law_row", .glo "_law_shaken", .glo "root", .glo "_law_root", .glo "least", .glo "_law_power", .glo "parts", .glo "either_way", .glo "law", .int "MOST_LETTERS" 6, .int "MOST_ROW" 20, .int "MOST_TIMES" 20, .exc "BadLetters", .exc "BadTrade", .exc "BadRow", .exc "BadNumber", .exc "TooLong", .exm "TooLong" "TooLong" true, .exm "BadNumber" "TooLong" false, .exm "BadRow" "TooLong" false, .exm "BadTrade" "TooLong" false, .exm "BadPairs" "TooLong" false, .exm "BadLetters" "TooLong" false, .cls "Trade", .mkr "Trade", .noat "Trade" "held"]
def ex (K : PySem.W.Frag) : Bool := propB K (He.ga K "Trade") "letters" && (propB K (He.ga K "Trade") "pairs" && (clsB K (He.ga K "Trade") && (eqB K (He.ga K "Trade") && true)))
def fn : List FnA := [⟨fun K => (He.ga K "is_integer"), "is_integer", "is_integer", (top 11)⟩, ⟨fun K => (He.ga K "is_from"), "is_from", "is_from", (top 12)⟩, ⟨fun K => (He.ga K "is_pair"), "is_pair", "is_pair", (top 13)⟩, ⟨fun K => (He.ma K (He.ga K "Trade") "__init__"), "__init__", "Trade.__init__", (mth (top 14) 0)⟩, ⟨fun K => (gAd K (He.ga K "Trade") "letters"), "letters", "Trade.letters", (mth (top 14) 1)⟩, ⟨fun K => (gAd K (He.ga K "Trade") "pairs"), "pairs", "Trade.pairs", (mth (top 14) 2)⟩, ⟨fun K => (He.ma K (He.ga K "Trade") "__eq__"), "__eq__", "Trade.__eq__", (mth (top 14) 3)⟩, ⟨fun K => (He.ga K "check_trade"), "check_trade", "check_trade", (top 15)⟩, ⟨fun K => (He.ga K "may"), "may", "may", (top 16)⟩, ⟨fun K => (He.ga K "is_row"), "is_row", "is_row", (top 17)⟩, ⟨fun K => (He.ga K "check_row"), "check_row", "check_row", (top 18)⟩, ⟨fun K => (He.ga K "check_rows"), "check_rows", "check_rows", (top 19)⟩, ⟨fun K => (He.ga K "only"), "only", "only", (top 21)⟩, ⟨fun K => (He.ga K "first_unlike"), "first_unlike", "first_unlike", (top 22)⟩, ⟨fun K => (He.ga K "bar_of"), "bar_of", "bar_of", (top 23)⟩, ⟨fun K => (He.ga K "first_places"), "first_places", "first_places", (top 24)⟩, ⟨fun K => (He.ga K "without"), "without", "without", (top 25)⟩, ⟨fun K => (He.ga K "least_of"), "least_of", "least_of", (top 26)⟩, ⟨fun K => (He.ga K "least"), "least", "least", (top 27)⟩, ⟨fun K => (He.ga K "groups_of"), "groups_of", "groups_of", (top 30)⟩, ⟨fun K => (He.ga K "parts"), "parts", "parts", (top 31)⟩, ⟨fun K => (He.ga K "power"), "power", "power", (top 32)⟩, ⟨fun K => (He.ga K "first_part"), "first_part", "first_part", (top 33)⟩, ⟨fun K => (He.ga K "root"), "root", "root", (top 34)⟩, ⟨fun K => (He.ga K "either_way"), "either_way", "either_way", (top 36)⟩, ⟨fun K => (He.ga K "_law_mix"), "_law_mix", "_law_mix", (top 38)⟩, ⟨fun K => (He.ga K "_law_next"), "_law_next", "_law_next", (top 39)⟩, ⟨fun K => (He.ga K "_law_pairs"), "_law_pairs", "_law_pairs", (top 40)⟩, ⟨fun K => (He.ga K "_law_row"), "_law_row", "_law_row", (top 41)⟩, ⟨fun K => (He.ga K "_law_may"), "_law_may", "_law_may", (top 42)⟩, ⟨fun K => (He.ga K "_law_shaken"), "_law_shaken", "_law_shaken", (top 43)⟩, ⟨fun K => (He.ga K "_law_class"), "_law_class", "_law_class", (top 44)⟩, ⟨fun K => (He.ga K "_law_root"), "_law_root", "_law_root", (top 45)⟩, ⟨fun K => (He.ga K "_law_power"), "_law_power", "_law_power", (top 46)⟩, ⟨fun K => (He.ga K "law"), "law", "law", (top 47)⟩]
structure Fx (K : PySem.W.Frag) (mg : Str → Option Value) : Prop where
  b_isinstance : mg "isinstance" = none
  b_int : mg "int" = none
  b_bool : mg "bool" = none
  b_tuple : mg "tuple" = none
  b_len : mg "len" = none
  b_enumerate : mg "enumerate" = none
  b_min : mg "min" = none
  b_max : mg "max" = none
  b_range : mg "range" = none
  b_sorted : mg "sorted" = none
  b_set : mg "set" = none
  b_reversed : mg "reversed" = none
  b_list : mg "list" = none
  g_is_integer : mg "is_integer" = some (.ref (He.ga K "is_integer"))
  g_is_from : mg "is_from" = some (.ref (He.ga K "is_from"))
  g_BadLetters : mg "BadLetters" = some (.ref (He.ga K "BadLetters"))
  g_is_pair : mg "is_pair" = some (.ref (He.ga K "is_pair"))
  g_Trade : mg "Trade" = some (.ref (He.ga K "Trade"))
  g_BadTrade : mg "BadTrade" = some (.ref (He.ga K "BadTrade"))
  g_check_trade : mg "check_trade" = some (.ref (He.ga K "check_trade"))
  g_is_row : mg "is_row" = some (.ref (He.ga K "is_row"))
  g_BadRow : mg "BadRow" = some (.ref (He.ga K "BadRow"))
  g_check_row : mg "check_row" = some (.ref (He.ga K "check_row"))
  g_may : mg "may" = some (.ref (He.ga K "may"))
  g_only : mg "only" = some (.ref (He.ga K "only"))
  g_first_unlike : mg "first_unlike" = some (.ref (He.ga K "first_unlike"))
  g_first_places : mg "first_places" = some (.ref (He.ga K "first_places"))
  g_without : mg "without" = some (.ref (He.ga K "without"))
  g_least_of : mg "least_of" = some (.ref (He.ga K "least_of"))
  g_groups_of : mg "groups_of" = some (.ref (He.ga K "groups_of"))
  g_BadNumber : mg "BadNumber" = some (.ref (He.ga K "BadNumber"))
  g_TooLong : mg "TooLong" = some (.ref (He.ga K "TooLong"))
  g_first_part : mg "first_part" = some (.ref (He.ga K "first_part"))
  g_bar_of : mg "bar_of" = some (.ref (He.ga K "bar_of"))
  g_check_rows : mg "check_rows" = some (.ref (He.ga K "check_rows"))
  g__law_next : mg "_law_next" = some (.ref (He.ga K "_law_next"))
  g__law_may : mg "_law_may" = some (.ref (He.ga K "_law_may"))
  g__law_class : mg "_law_class" = some (.ref (He.ga K "_law_class"))
  g_power : mg "power" = some (.ref (He.ga K "power"))
  g_BadPairs : mg "BadPairs" = some (.ref (He.ga K "BadPairs"))
  g__law_mix : mg "_law_mix" = some (.ref (He.ga K "_law_mix"))
  g__law_pairs : mg "_law_pairs" = some (.ref (He.ga K "_law_pairs"))
  g__law_row : mg "_law_row" = some (.ref (He.ga K "_law_row"))
  g__law_shaken : mg "_law_shaken" = some (.ref (He.ga K "_law_shaken"))
  g_root : mg "root" = some (.ref (He.ga K "root"))
  g__law_root : mg "_law_root" = some (.ref (He.ga K "_law_root"))
  g_least : mg "least" = some (.ref (He.ga K "least"))
  g__law_power : mg "_law_power" = some (.ref (He.ga K "_law_power"))
  g_parts : mg "parts" = some (.ref (He.ga K "parts"))
  g_either_way : mg "either_way" = some (.ref (He.ga K "either_way"))
  g_law : mg "law" = some (.ref (He.ga K "law"))
  i_MOST_LETTERS : ∃ t, mg "MOST_LETTERS" = some (.int 6 t)
  i_MOST_ROW : ∃ t, mg "MOST_ROW" = some (.int 20 t)
  i_MOST_TIMES : ∃ t, mg "MOST_TIMES" = some (.int 20 t)
  x_BadLetters : ExcF K (He.ga K "BadLetters")
  x_BadTrade : ExcF K (He.ga K "BadTrade")
  x_BadRow : ExcF K (He.ga K "BadRow")
  x_BadNumber : ExcF K (He.ga K "BadNumber")
  x_TooLong : ExcF K (He.ga K "TooLong")
  m_TooLong_TooLong : PySem.W.exmOne K (.ref (He.ga K "TooLong")) (.ref (He.ga K "TooLong")) = some true
  m_BadNumber_TooLong : PySem.W.exmOne K (.ref (He.ga K "BadNumber")) (.ref (He.ga K "TooLong")) = some false
  m_BadRow_TooLong : PySem.W.exmOne K (.ref (He.ga K "BadRow")) (.ref (He.ga K "TooLong")) = some false
  m_BadTrade_TooLong : PySem.W.exmOne K (.ref (He.ga K "BadTrade")) (.ref (He.ga K "TooLong")) = some false
  m_BadPairs_TooLong : PySem.W.exmOne K (.ref (He.ga K "BadPairs")) (.ref (He.ga K "TooLong")) = some false
  m_BadLetters_TooLong : PySem.W.exmOne K (.ref (He.ga K "BadLetters")) (.ref (He.ga K "TooLong")) = some false
  c_Trade : Cls K (He.ga K "Trade")
  m_Trade : Mk K (He.ga K "Trade") (He.ma K (He.ga K "Trade") "__init__")
  n_Trade_held : NoAttr K (He.ga K "Trade") "held"
  p_Trade_letters : PropOf K (He.ga K "Trade") "letters" (pAd K (He.ga K "Trade") "letters") (gAd K (He.ga K "Trade") "letters")
  p_Trade_pairs : PropOf K (He.ga K "Trade") "pairs" (pAd K (He.ga K "Trade") "pairs") (gAd K (He.ga K "Trade") "pairs")
  k_Trade : ClsF K (He.ga K "Trade")
  e_Trade : PySem.W.findIn K (.ref (He.ga K "Trade")) "__eq__" = some (some (.ref (He.ma K (He.ga K "Trade") "__eq__"))) ∧ PySem.W.isFn K (.ref (He.ma K (He.ga K "Trade") "__eq__")) = true
structure Fs (P : Program) (w : World) (K : PySem.W.Frag) (mg : Str → Option Value) (base : Heap) (C : CallF) (k : Nat) : Prop where
  f0 : FnE P w K mg base (tt K) C k 0 (He.ga K "is_integer")
  f1 : FnE P w K mg base (tt K) C k 1 (He.ga K "is_from")
  f2 : FnE P w K mg base (tt K) C k 2 (He.ga K "is_pair")
  f3 : FnE P w K mg base (tt K) C k 3 (He.ma K (He.ga K "Trade") "__init__")
  f4 : FnE P w K mg base (tt K) C k 4 (gAd K (He.ga K "Trade") "letters")
  f5 : FnE P w K mg base (tt K) C k 5 (gAd K (He.ga K "Trade") "pairs")
  f6 : FnE P w K mg base (tt K) C k 6 (He.ma K (He.ga K "Trade") "__eq__")
  f7 : FnE P w K mg base (tt K) C k 7 (He.ga K "check_trade")
  f8 : FnE P w K mg base (tt K) C k 8 (He.ga K "may")
  f9 : FnE P w K mg base (tt K) C k 9 (He.ga K "is_row")
  f10 : FnE P w K mg base (tt K) C k 10 (He.ga K "check_row")
  f11 : FnE P w K mg base (tt K) C k 11 (He.ga K "check_rows")
  f12 : FnE P w K mg base (tt K) C k 12 (He.ga K "only")
  f13 : FnE P w K mg base (tt K) C k 13 (He.ga K "first_unlike")
  f14 : FnE P w K mg base (tt K) C k 14 (He.ga K "bar_of")
  f15 : FnE P w K mg base (tt K) C k 15 (He.ga K "first_places")
  f16 : FnE P w K mg base (tt K) C k 16 (He.ga K "without")
  f17 : FnE P w K mg base (tt K) C k 17 (He.ga K "least_of")
  f18 : FnE P w K mg base (tt K) C k 18 (He.ga K "least")
  f19 : FnE P w K mg base (tt K) C k 19 (He.ga K "groups_of")
  f20 : FnE P w K mg base (tt K) C k 20 (He.ga K "parts")
  f21 : FnE P w K mg base (tt K) C k 21 (He.ga K "power")
  f22 : FnE P w K mg base (tt K) C k 22 (He.ga K "first_part")
  f23 : FnE P w K mg base (tt K) C k 23 (He.ga K "root")
  f24 : FnE P w K mg base (tt K) C k 24 (He.ga K "either_way")
  f25 : FnE P w K mg base (tt K) C k 25 (He.ga K "_law_mix")
  f26 : FnE P w K mg base (tt K) C k 26 (He.ga K "_law_next")
  f27 : FnE P w K mg base (tt K) C k 27 (He.ga K "_law_pairs")
  f28 : FnE P w K mg base (tt K) C k 28 (He.ga K "_law_row")
  f29 : FnE P w K mg base (tt K) C k 29 (He.ga K "_law_may")
  f30 : FnE P w K mg base (tt K) C k 30 (He.ga K "_law_shaken")
  f31 : FnE P w K mg base (tt K) C k 31 (He.ga K "_law_class")
  f32 : FnE P w K mg base (tt K) C k 32 (He.ga K "_law_root")
  f33 : FnE P w K mg base (tt K) C k 33 (He.ga K "_law_power")
  f34 : FnE P w K mg base (tt K) C k 34 (He.ga K "law")
abbrev st0 : Stmt := (top 11)
abbrev N0 : List Str := ["value"]
theorem sc0 : FnScope N0 ["value"] (defScope st0) := ⟨rfl, rfl, rfl, by decide +kernel, rfl, by decide +kernel, by decide +kernel⟩
abbrev st1 : Stmt := (top 12)
abbrev N1 : List Str := ["value", "low", "high"]
theorem sc1 : FnScope N1 ["value", "low", "high"] (defScope st1) := ⟨rfl, rfl, rfl, by decide +kernel, rfl, by decide +kernel, by decide +kernel⟩
abbrev st2 : Stmt := (top 13)
abbrev N2 : List Str := ["value", "letters"]
theorem sc2 : FnScope N2 ["value", "letters"] (defScope st2) := ⟨rfl, rfl, rfl, by decide +kernel, rfl, by decide +kernel, by decide +kernel⟩
abbrev st3 : Stmt := (mth (top 14) 0)
abbrev N3 : List Str := ["self", "letters", "pairs", "index", "pair"]
theorem sc3 : FnScope N3 ["self", "letters", "pairs"] (defScope st3) := ⟨rfl, rfl, rfl, by decide +kernel, rfl, by decide +kernel, by decide +kernel⟩
abbrev st4 : Stmt := (mth (top 14) 1)
abbrev N4 : List Str := ["self"]
theorem sc4 : FnScope N4 ["self"] (defScope st4) := ⟨rfl, rfl, rfl, by decide +kernel, rfl, by decide +kernel, by decide +kernel⟩
abbrev st5 : Stmt := (mth (top 14) 2)
abbrev N5 : List Str := ["self"]
theorem sc5 : FnScope N5 ["self"] (defScope st5) := ⟨rfl, rfl, rfl, by decide +kernel, rfl, by decide +kernel, by decide +kernel⟩
abbrev st6 : Stmt := (mth (top 14) 3)
abbrev N6 : List Str := ["self", "other"]
theorem sc6 : FnScope N6 ["self", "other"] (defScope st6) := ⟨rfl, rfl, rfl, by decide +kernel, rfl, by decide +kernel, by decide +kernel⟩
abbrev st7 : Stmt := (top 15)
abbrev N7 : List Str := ["value"]
theorem sc7 : FnScope N7 ["value"] (defScope st7) := ⟨rfl, rfl, rfl, by decide +kernel, rfl, by decide +kernel, by decide +kernel⟩
abbrev st8 : Stmt := (top 16)
abbrev N8 : List Str := ["trade", "one", "other"]
theorem sc8 : FnScope N8 ["trade", "one", "other"] (defScope st8) := ⟨rfl, rfl, rfl, by decide +kernel, rfl, by decide +kernel, by decide +kernel⟩
abbrev st9 : Stmt := (top 17)
abbrev N9 : List Str := ["value", "letters", "letter"]
theorem sc9 : FnScope N9 ["value", "letters"] (defScope st9) := ⟨rfl, rfl, rfl, by decide +kernel, rfl, by decide +kernel, by decide +kernel⟩
abbrev st10 : Stmt := (top 18)
abbrev N10 : List Str := ["trade", "row"]
theorem sc10 : FnScope N10 ["trade", "row"] (defScope st10) := ⟨rfl, rfl, rfl, by decide +kernel, rfl, by decide +kernel, by decide +kernel⟩
abbrev st11 : Stmt := (top 19)
abbrev N11 : List Str := ["trade", "one", "other"]
theorem sc11 : FnScope N11 ["trade", "one", "other"] (defScope st11) := ⟨rfl, rfl, rfl, by decide +kernel, rfl, by decide +kernel, by decide +kernel⟩
abbrev st12 : Stmt := (top 21)
abbrev N12 : List Str := ["row", "letters", "letter"]
theorem sc12 : FnScope N12 ["row", "letters"] (defScope st12) := ⟨rfl, rfl, rfl, by decide +kernel, rfl, by decide +kernel, by decide +kernel⟩
abbrev st13 : Stmt := (top 22)
abbrev N13 : List Str := ["one", "other", "place", "letter"]
theorem sc13 : FnScope N13 ["one", "other"] (defScope st13) := ⟨rfl, rfl, rfl, by decide +kernel, rfl, by decide +kernel, by decide +kernel⟩
abbrev st14 : Stmt := (top 23)
abbrev N14 : List Str := ["trade", "one", "other", "letters", "letter", "first", "second", "place"]
theorem sc14 : FnScope N14 ["trade", "one", "other"] (defScope st14) := ⟨rfl, rfl, rfl, by decide +kernel, rfl, by decide +kernel, by decide +kernel⟩
abbrev st15 : Stmt := (top 24)
abbrev N15 : List Str := ["trade", "row", "found", "place", "letter", "ahead"]
theorem sc15 : FnScope N15 ["trade", "row"] (defScope st15) := ⟨rfl, rfl, rfl, by decide +kernel, rfl, by decide +kernel, by decide +kernel⟩
abbrev st16 : Stmt := (top 25)
abbrev N16 : List Str := ["row", "places", "place", "letter"]
theorem sc16 : FnScope N16 ["row", "places"] (defScope st16) := ⟨rfl, rfl, rfl, by decide +kernel, rfl, by decide +kernel, by decide +kernel⟩
abbrev st17 : Stmt := (top 26)
abbrev N17 : List Str := ["trade", "row", "found", "left", "letter", "place"]
theorem sc17 : FnScope N17 ["trade", "row"] (defScope st17) := ⟨rfl, rfl, rfl, by decide +kernel, rfl, by decide +kernel, by decide +kernel⟩
abbrev st18 : Stmt := (top 27)
abbrev N18 : List Str := ["trade", "row"]
theorem sc18 : FnScope N18 ["trade", "row"] (defScope st18) := ⟨rfl, rfl, rfl, by decide +kernel, rfl, by decide +kernel, by decide +kernel⟩
abbrev st19 : Stmt := (top 30)
abbrev N19 : List Str := ["trade", "row", "found", "letter", "own", "others", "group", "other"]
theorem sc19 : FnScope N19 ["trade", "row"] (defScope st19) := ⟨rfl, rfl, rfl, by decide +kernel, rfl, by decide +kernel, by decide +kernel⟩
abbrev st20 : Stmt := (top 31)
abbrev N20 : List Str := ["trade", "row", "group"]
theorem sc20 : FnScope N20 ["trade", "row"] (defScope st20) := ⟨rfl, rfl, rfl, by decide +kernel, rfl, by decide +kernel, by decide +kernel⟩
abbrev st21 : Stmt := (top 32)
abbrev N21 : List Str := ["trade", "row", "many"]
theorem sc21 : FnScope N21 ["trade", "row", "many"] (defScope st21) := ⟨rfl, rfl, rfl, by decide +kernel, rfl, by decide +kernel, by decide +kernel⟩
abbrev st22 : Stmt := (top 33)
abbrev N22 : List Str := ["row", "many", "seen", "found", "letter", "often"]
theorem sc22 : FnScope N22 ["row", "many"] (defScope st22) := ⟨rfl, rfl, rfl, by decide +kernel, rfl, by decide +kernel, by decide +kernel⟩
abbrev st23 : Stmt := (top 34)
abbrev N23 : List Str := ["trade", "row", "many", "letter", "part"]
theorem sc23 : FnScope N23 ["trade", "row"] (defScope st23) := ⟨rfl, rfl, rfl, by decide +kernel, rfl, by decide +kernel, by decide +kernel⟩
abbrev st24 : Stmt := (top 36)
abbrev N24 : List Str := ["trade", "one", "other"]
theorem sc24 : FnScope N24 ["trade", "one", "other"] (defScope st24) := ⟨rfl, rfl, rfl, by decide +kernel, rfl, by decide +kernel, by decide +kernel⟩
abbrev st25 : Stmt := (top 38)
abbrev N25 : List Str := ["_law_script", "_law_seed", "_law_state", "_law_cell"]
theorem sc25 : FnScope N25 ["_law_script", "_law_seed"] (defScope st25) := ⟨rfl, rfl, rfl, by decide +kernel, rfl, by decide +kernel, by decide +kernel⟩
abbrev st26 : Stmt := (top 39)
abbrev N26 : List Str := ["_law_h", "_law_bound", "_law_cell", "_law_cells"]
theorem sc26 : FnScope N26 ["_law_h", "_law_bound"] (defScope st26) := ⟨rfl, rfl, rfl, by decide +kernel, rfl, by decide +kernel, by decide +kernel⟩
abbrev st27 : Stmt := (top 40)
abbrev N27 : List Str := ["_law_h", "_law_letters", "_law_kind", "_law_found", "_law_a", "_law_b"]
theorem sc27 : FnScope N27 ["_law_h", "_law_letters"] (defScope st27) := ⟨rfl, rfl, rfl, by decide +kernel, rfl, by decide +kernel, by decide +kernel⟩
abbrev st28 : Stmt := (top 41)
abbrev N28 : List Str := ["_law_h", "_law_letters", "_law_most", "_law_k"]
theorem sc28 : FnScope N28 ["_law_h", "_law_letters", "_law_most"] (defScope st28) := ⟨rfl, rfl, rfl, by decide +kernel, rfl, by decide +kernel, by decide +kernel⟩
abbrev st29 : Stmt := (top 42)
abbrev N29 : List Str := ["_law_pairs_here", "_law_a", "_law_b"]
theorem sc29 : FnScope N29 ["_law_pairs_here", "_law_a", "_law_b"] (defScope st29) := ⟨rfl, rfl, rfl, by decide +kernel, rfl, by decide +kernel, by decide +kernel⟩
abbrev st30 : Stmt := (top 43)
abbrev N30 : List Str := ["_law_h", "_law_pairs_here", "_law_row_here", "_law_turns", "_law_here", "_law_turn", "_law_k"]
theorem sc30 : FnScope N30 ["_law_h", "_law_pairs_here", "_law_row_here", "_law_turns"] (defScope st30) := ⟨rfl, rfl, rfl, by decide +kernel, rfl, by decide +kernel, by decide +kernel⟩
abbrev st31 : Stmt := (top 44)
abbrev N31 : List Str := ["_law_pairs_here", "_law_row_here", "_law_found", "_law_level", "_law_turn", "_law_later", "_law_here", "_law_k", "_law_new"]
theorem sc31 : FnScope N31 ["_law_pairs_here", "_law_row_here"] (defScope st31) := ⟨rfl, rfl, rfl, by decide +kernel, rfl, by decide +kernel, by decide +kernel⟩
abbrev st32 : Stmt := (top 45)
abbrev N32 : List Str := ["_law_pairs_here", "_law_row_here", "_law_every", "_law_often", "_law_size", "_law_found", "_law_here"]
theorem sc32 : FnScope N32 ["_law_pairs_here", "_law_row_here"] (defScope st32) := ⟨rfl, rfl, rfl, by decide +kernel, rfl, by decide +kernel, by decide +kernel⟩
abbrev st33 : Stmt := (top 46)
abbrev N33 : List Str := ["_law_told", "_law_row_here", "_law_often"]
theorem sc33 : FnScope N33 ["_law_told", "_law_row_here", "_law_often"] (defScope st33) := ⟨rfl, rfl, rfl, by decide +kernel, rfl, by decide +kernel, by decide +kernel⟩
abbrev st34 : Stmt := (top 47)
abbrev N34 : List Str := ["_law_script", "_law_h", "_law_letters", "_law_pairs_here", "_law_told", "_law_base", "_law_row_here", "_law_often", "_law_due", "_law_made", "_law_low", "_law_times", "_law_one", "_law_other", "_law_free", "_law_x", "_law_y"]
theorem sc34 : FnScope N34 ["_law_script"] (defScope st34) := ⟨rfl, rfl, rfl, by decide +kernel, rfl, by decide +kernel, by decide +kernel⟩
section
variable {P : Program} {w : World} {K : PySem.W.Frag} {mg : Str → Option Value} {base : Heap} {C : CallF} {k fu : Nat} {cdv : Value} {A : Around} {outer : List Env} {s : Shared} {H : Hp} {E : XK}
theorem d0 (φ : Fx K mg) (F : Fs P w K mg base C k) (hr : Room (k + 1) (A.deeper (envOfC "is_integer" (defScope st0) s.heap.objs.size (He.ga K "is_integer") cdv))) :
    SSs (cxOf (L2.CX P w) P w K mg base N0 "is_integer" (defScope st0) (He.ga K "is_integer") cdv A outer s H E) (tt K) C (fun c d _ H => E c d H) fu (defBody st0) ir_is_integer := by
  have hN := sc0.nd
  have u0 := room0 hr
  have u64 := room64 hr
  have u65 := room65 hr
  exact (b_cons (t_ret (s_and (s_isi_int rfl φ.b_isinstance rfl φ.b_int (s_var 0)) (s_one (s_not (s_isi_bool rfl φ.b_isinstance rfl φ.b_bool (s_var 0))))))
    b_nil)
theorem d1 (φ : Fx K mg) (F : Fs P w K mg base C k) (hr : Room (k + 1) (A.deeper (envOfC "is_from" (defScope st1) s.heap.objs.size (He.ga K "is_from") cdv))) :
    SSs (cxOf (L2.CX P w) P w K mg base N1 "is_from" (defScope st1) (He.ga K "is_from") cdv A outer s H E) (tt K) C (fun c d _ H => E c d H) fu (defBody st1) ir_is_from := by
  have hN := sc1.nd
  have u0 := room0 hr
  have u64 := room64 hr
  have u65 := room65 hr
  exact (b_cons (t_ret (s_and (s_call F.f0 (room1 hr) (takes_of rfl rfl rfl rfl) rfl φ.g_is_integer (s_acons (s_var 0) s_anil)) (s_one (s_chain (c_le u0) (c_le u0) (s_var 1) (s_var 0) (s_var 2)))))
    b_nil)
theorem d2 (φ : Fx K mg) (F : Fs P w K mg base C k) (hr : Room (k + 1) (A.deeper (envOfC "is_pair" (defScope st2) s.heap.objs.size (He.ga K "is_pair") cdv))) :
    SSs (cxOf (L2.CX P w) P w K mg base N2 "is_pair" (defScope st2) (He.ga K "is_pair") cdv A outer s H E) (tt K) C (fun c d _ H => E c d H) fu (defBody st2) ir_is_pair := by
  have hN := sc2.nd
  have u0 := room0 hr
  have u64 := room64 hr
  have u65 := room65 hr
  exact (b_cons (t_if (PW.pt (w_or (t_not (t_vl (s_isi_tuple rfl φ.b_isinstance rfl φ.b_tuple (s_var 0)))) (w_or1 (t_cmp (c_ne u64) (s_len rfl φ.b_len (s_var 0)) s_int)))) (b_cons (t_ret s_bl)
    b_nil) b_nil)
    (b_cons (t_ret (s_and (s_call F.f1 (room1 hr) (takes_of rfl rfl rfl rfl) rfl φ.g_is_from (s_acons (s_sub u65 (s_var 0) s_int) (s_acons s_int (s_acons (s_bin o_sub (s_var 1) s_int) s_anil)))) (s_one (s_call F.f1 (room1 hr) (takes_of rfl rfl rfl rfl) rfl φ.g_is_from (s_acons (s_sub u65 (s_var 0) s_int) (s_acons (s_bin o_add (s_sub u65 (s_var 0) s_int) s_int) (s_acons (s_bin o_sub (s_var 1) s_int) s_anil)))))))
    b_nil))
theorem d3 (φ : Fx K mg) (F : Fs P w K mg base C k) (hr : Room (k + 1) (A.deeper (envOfC "Trade.__init__" (defScope st3) s.heap.objs.size (He.ma K (He.ga K "Trade") "__init__") cdv))) :
    SSs (cxOf (L2.CX P w) P w K mg base N3 "Trade.__init__" (defScope st3) (He.ma K (He.ga K "Trade") "__init__") cdv A outer s H E) (tt K) C (fun c d _ H => E c d H) fu (defBody st3) ir_Trade___init__ := by
  have hN := sc3.nd
  have u0 := room0 hr
  have u64 := room64 hr
  have u65 := room65 hr
  exact (b_cons (t_if (t_not (t_vl (s_call F.f1 (room1 hr) (takes_of rfl rfl rfl rfl) rfl φ.g_is_from (s_acons (s_var 1) (s_acons s_int (s_acons (s_glbI rfl φ.i_MOST_LETTERS) s_anil)))))) (b_cons (t_rse0 (c := 2) φ.x_BadLetters rfl (takes_of rfl rfl rfl rfl) rfl φ.g_BadLetters)
    b_nil) b_nil)
    (b_cons (t_if (t_not (t_vl (s_isi_tuple rfl φ.b_isinstance rfl φ.b_tuple (s_var 2)))) (b_cons t_nev
    b_nil) b_nil)
    (b_cons (t_forR (passes_of rfl) rfl (i_enum rfl φ.b_enumerate (s_var 2)) (g_tupR rfl (g_cons it_T (g_name 3 hN) (g_cons it_T (g_name 4 hN) (g_nil it_T)))) (b_cons (t_if (t_not (t_vl (s_call F.f2 (room1 hr) (takes_of rfl rfl rfl rfl) rfl φ.g_is_pair (s_acons (s_var 4) (s_acons (s_var 1) s_anil))))) (b_cons t_nev
    b_nil) b_nil)
    (b_cons (t_if (PW.pt (w_and (t_cmp (c_gt u0) (s_var 3) s_int) (w_and1 (t_cmp (c_le u0) (s_var 4) (s_sub u65 (s_var 2) (s_bin o_sub (s_var 3) s_int)))))) (b_cons t_nev
    b_nil) b_nil)
    b_nil)))
    (b_cons (t_fld (c := 0) (ix := 0) φ.c_Trade φ.n_Trade_held (s_tup (s_acons (s_var 1) (s_acons (s_var 2) s_anil))) (s_var 0))
    b_nil))))
theorem d4 (φ : Fx K mg) (F : Fs P w K mg base C k) (hr : Room (k + 1) (A.deeper (envOfC "Trade.letters" (defScope st4) s.heap.objs.size (gAd K (He.ga K "Trade") "letters") cdv))) :
    SSs (cxOf (L2.CX P w) P w K mg base N4 "Trade.letters" (defScope st4) (gAd K (He.ga K "Trade") "letters") cdv A outer s H E) (tt K) C (fun c d _ H => E c d H) fu (defBody st4) ir_Trade_letters := by
  have hN := sc4.nd
  have u0 := room0 hr
  have u64 := room64 hr
  have u65 := room65 hr
  exact (b_cons (t_ret (s_sub u65 (s_fld φ.c_Trade φ.n_Trade_held rfl (s_var 0)) s_int))
    b_nil)
theorem d5 (φ : Fx K mg) (F : Fs P w K mg base C k) (hr : Room (k + 1) (A.deeper (envOfC "Trade.pairs" (defScope st5) s.heap.objs.size (gAd K (He.ga K "Trade") "pairs") cdv))) :
    SSs (cxOf (L2.CX P w) P w K mg base N5 "Trade.pairs" (defScope st5) (gAd K (He.ga K "Trade") "pairs") cdv A outer s H E) (tt K) C (fun c d _ H => E c d H) fu (defBody st5) ir_Trade_pairs := by
  have hN := sc5.nd
  have u0 := room0 hr
  have u64 := room64 hr
  have u65 := room65 hr
  exact (b_cons (t_ret (s_sub u65 (s_fld φ.c_Trade φ.n_Trade_held rfl (s_var 0)) s_int))
    b_nil)
theorem d6 (φ : Fx K mg) (F : Fs P w K mg base C k) (hr : Room (k + 1) (A.deeper (envOfC "Trade.__eq__" (defScope st6) s.heap.objs.size (He.ma K (He.ga K "Trade") "__eq__") cdv))) :
    SSs (cxOf (L2.CX P w) P w K mg base N6 "Trade.__eq__" (defScope st6) (He.ma K (He.ga K "Trade") "__eq__") cdv A outer s H E) (tt K) C (fun c d _ H => E c d H) fu (defBody st6) ir_Trade___eq__ := by
  have hN := sc6.nd
  have u0 := room0 hr
  have u64 := room64 hr
  have u65 := room65 hr
  exact (b_cons (t_ret (s_and (s_isi_cls (c := 0) rfl φ.b_isinstance rfl φ.g_Trade φ.k_Trade (s_var 1)) (s_one (s_cmp (c_eq u64) (s_fld φ.c_Trade φ.n_Trade_held rfl (s_var 0)) (s_fld φ.c_Trade φ.n_Trade_held rfl (s_var 1))))))
    b_nil)
theorem d7 (φ : Fx K mg) (F : Fs P w K mg base C k) (hr : Room (k + 1) (A.deeper (envOfC "check_trade" (defScope st7) s.heap.objs.size (He.ga K "check_trade") cdv))) :
    SSs (cxOf (L2.CX P w) P w K mg base N7 "check_trade" (defScope st7) (He.ga K "check_trade") cdv A outer s H E) (tt K) C (fun c d _ H => E c d H) fu (defBody st7) ir_check_trade := by
  have hN := sc7.nd
  have u0 := room0 hr
  have u64 := room64 hr
  have u65 := room65 hr
  exact (b_cons (t_if (t_not (t_vl (s_isi_cls (c := 0) rfl φ.b_isinstance rfl φ.g_Trade φ.k_Trade (s_var 0)))) (b_cons (t_rse0 (c := 4) φ.x_BadTrade rfl (takes_of rfl rfl rfl rfl) rfl φ.g_BadTrade)
    b_nil) b_nil)
    b_nil)
theorem d8 (φ : Fx K mg) (F : Fs P w K mg base C k) (hr : Room (k + 1) (A.deeper (envOfC "may" (defScope st8) s.heap.objs.size (He.ga K "may") cdv))) :
    SSs (cxOf (L2.CX P w) P w K mg base N8 "may" (defScope st8) (He.ga K "may") cdv A outer s H E) (tt K) C (fun c d _ H => E c d H) fu (defBody st8) ir_may := by
  have hN := sc8.nd
  have u0 := room0 hr
  have u64 := room64 hr
  have u65 := room65 hr
  exact (b_cons (t_ret (s_cmp (c_in u65) (s_tup (s_acons (s_min2 rfl rfl φ.b_min (s_var 1) (s_var 2)) (s_acons (s_max2 rfl rfl φ.b_max (s_var 1) (s_var 2)) s_anil))) (s_sub u65 (s_fld φ.c_Trade φ.n_Trade_held rfl (s_var 0)) s_int)))
    b_nil)
theorem d9 (φ : Fx K mg) (F : Fs P w K mg base C k) (hr : Room (k + 1) (A.deeper (envOfC "is_row" (defScope st9) s.heap.objs.size (He.ga K "is_row") cdv))) :
    SSs (cxOf (L2.CX P w) P w K mg base N9 "is_row" (defScope st9) (He.ga K "is_row") cdv A outer s H E) (tt K) C (fun c d _ H => E c d H) fu (defBody st9) ir_is_row := by
  have hN := sc9.nd
  have u0 := room0 hr
  have u64 := room64 hr
  have u65 := room65 hr
  exact (b_cons (t_if (PW.pt (w_or (t_not (t_vl (s_isi_tuple rfl φ.b_isinstance rfl φ.b_tuple (s_var 0)))) (w_or1 (t_cmp (c_gt u0) (s_len rfl φ.b_len (s_var 0)) (s_glbI rfl φ.i_MOST_ROW))))) (b_cons (t_ret s_bl)
    b_nil) b_nil)
    (b_cons (t_for (passes_of rfl) rfl (i_seq (s_var 0)) (g_name 2 hN) (b_cons (t_if (t_not (t_vl (s_call F.f1 (room1 hr) (takes_of rfl rfl rfl rfl) rfl φ.g_is_from (s_acons (s_var 2) (s_acons s_int (s_acons (s_bin o_sub (s_var 1) s_int) s_anil)))))) (b_cons (t_ret s_bl)
    b_nil) b_nil)
    b_nil))
    (b_cons (t_ret s_bl)
    b_nil)))
theorem d10 (φ : Fx K mg) (F : Fs P w K mg base C k) (hr : Room (k + 1) (A.deeper (envOfC "check_row" (defScope st10) s.heap.objs.size (He.ga K "check_row") cdv))) :
    SSs (cxOf (L2.CX P w) P w K mg base N10 "check_row" (defScope st10) (He.ga K "check_row") cdv A outer s H E) (tt K) C (fun c d _ H => E c d H) fu (defBody st10) ir_check_row := by
  have hN := sc10.nd
  have u0 := room0 hr
  have u64 := room64 hr
  have u65 := room65 hr
  exact (b_cons (t_exp (s_call F.f7 (room1 hr) (takes_of rfl rfl rfl rfl) rfl φ.g_check_trade (s_acons (s_var 0) s_anil)))
    (b_cons (t_if (t_not (t_vl (s_call F.f9 (room1 hr) (takes_of rfl rfl rfl rfl) rfl φ.g_is_row (s_acons (s_var 1) (s_acons (s_sub u65 (s_fld φ.c_Trade φ.n_Trade_held rfl (s_var 0)) s_int) s_anil))))) (b_cons (t_rse0 (c := 5) φ.x_BadRow rfl (takes_of rfl rfl rfl rfl) rfl φ.g_BadRow)
    b_nil) b_nil)
    b_nil))
theorem d11 (φ : Fx K mg) (F : Fs P w K mg base C k) (hr : Room (k + 1) (A.deeper (envOfC "check_rows" (defScope st11) s.heap.objs.size (He.ga K "check_rows") cdv))) :
    SSs (cxOf (L2.CX P w) P w K mg base N11 "check_rows" (defScope st11) (He.ga K "check_rows") cdv A outer s H E) (tt K) C (fun c d _ H => E c d H) fu (defBody st11) ir_check_rows := by
  have hN := sc11.nd
  have u0 := room0 hr
  have u64 := room64 hr
  have u65 := room65 hr
  exact (b_cons (t_exp (s_call F.f10 (room1 hr) (takes_of rfl rfl rfl rfl) rfl φ.g_check_row (s_acons (s_var 0) (s_acons (s_var 1) s_anil))))
    (b_cons (t_exp (s_call F.f10 (room1 hr) (takes_of rfl rfl rfl rfl) rfl φ.g_check_row (s_acons (s_var 0) (s_acons (s_var 2) s_anil))))
    b_nil))
theorem d12 (φ : Fx K mg) (F : Fs P w K mg base C k) (hr : Room (k + 1) (A.deeper (envOfC "only" (defScope st12) s.heap.objs.size (He.ga K "only") cdv))) :
    SSs (cxOf (L2.CX P w) P w K mg base N12 "only" (defScope st12) (He.ga K "only") cdv A outer s H E) (tt K) C (fun c d _ H => E c d H) fu (defBody st12) ir_only := by
  have hN := sc12.nd
  have u0 := room0 hr
  have u64 := room64 hr
  have u65 := room65 hr
  exact (b_cons (t_ret (s_lc [("letter", 2)] rfl hN (i_seq (s_var 0)) (fun _ _ _ _ _ => (g_name 2 hN)) (fun _ _ _ _ _ => (c_one (t_cmp (c_in u65) (s_var 2) (s_var 1)))) (fun _ _ _ _ _ => (s_var 2))))
    b_nil)
theorem d13 (φ : Fx K mg) (F : Fs P w K mg base C k) (hr : Room (k + 1) (A.deeper (envOfC "first_unlike" (defScope st13) s.heap.objs.size (He.ga K "first_unlike") cdv))) :
    SSs (cxOf (L2.CX P w) P w K mg base N13 "first_unlike" (defScope st13) (He.ga K "first_unlike") cdv A outer s H E) (tt K) C (fun c d _ H => E c d H) fu (defBody st13) ir_first_unlike := by
  have hN := sc13.nd
  have u0 := room0 hr
  have u64 := room64 hr
  have u65 := room65 hr
  exact (b_cons (t_forR (passes_of rfl) rfl (i_enum rfl φ.b_enumerate (s_var 0)) (g_tupR rfl (g_cons it_T (g_name 2 hN) (g_cons it_T (g_name 3 hN) (g_nil it_T)))) (b_cons (t_if (t_cmp (c_ne u64) (s_var 3) (s_sub u65 (s_var 1) (s_var 2))) (b_cons (t_ret (s_var 2))
    b_nil) b_nil)
    b_nil))
    (b_cons (t_ret s_non)
    b_nil))
theorem d14 (φ : Fx K mg) (F : Fs P w K mg base C k) (hr : Room (k + 1) (A.deeper (envOfC "bar_of" (defScope st14) s.heap.objs.size (He.ga K "bar_of") cdv))) :
    SSs (cxOf (L2.CX P w) P w K mg base N14 "bar_of" (defScope st14) (He.ga K "bar_of") cdv A outer s H E) (tt K) C (fun c d _ H => E c d H) fu (defBody st14) ir_bar_of := by
  have hN := sc14.nd
  have u0 := room0 hr
  have u64 := room64 hr
  have u65 := room65 hr
  exact (b_cons (t_set (i := 3) hN (s_sub u65 (s_fld φ.c_Trade φ.n_Trade_held rfl (s_var 0)) s_int))
    (b_cons (t_for (passes_of rfl) rfl (i_rng1 rfl φ.b_range (s_var 3)) (g_name 4 hN) (b_cons (t_if (t_cmp (c_ne u64) (s_mthT PySem.F.slot_tuple_count PySem.F.type_tuple_count m_countT (s_var 1) (s_acons (s_var 4) s_anil)) (s_mthT PySem.F.slot_tuple_count PySem.F.type_tuple_count m_countT (s_var 2) (s_acons (s_var 4) s_anil))) (b_cons (t_ret (s_tup (s_acons s_str (s_acons (s_var 4) s_anil))))
    b_nil) b_nil)
    b_nil))
    (b_cons (t_for (passes_of rfl) rfl (i_rng1 rfl φ.b_range (s_var 3)) (g_name 5 hN) (b_cons (t_for (passes_of rfl) rfl (i_rng2 rfl φ.b_range (s_bin o_add (s_var 5) s_int) (s_var 3)) (g_name 6 hN) (b_cons (t_if (t_not (t_vl (s_call F.f8 (room1 hr) (takes_of rfl rfl rfl rfl) rfl φ.g_may (s_acons (s_var 0) (s_acons (s_var 5) (s_acons (s_var 6) s_anil)))))) (b_cons (t_set (i := 7) hN (s_call F.f13 (room1 hr) (takes_of rfl rfl rfl rfl) rfl φ.g_first_unlike (s_acons (s_call F.f12 (room1 hr) (takes_of rfl rfl rfl rfl) rfl φ.g_only (s_acons (s_var 1) (s_acons (s_tup (s_acons (s_var 5) (s_acons (s_var 6) s_anil))) s_anil))) (s_acons (s_call F.f12 (room1 hr) (takes_of rfl rfl rfl rfl) rfl φ.g_only (s_acons (s_var 2) (s_acons (s_tup (s_acons (s_var 5) (s_acons (s_var 6) s_anil))) s_anil))) s_anil))))
    (b_cons (t_if (t_cmp c_notN (s_var 7) s_non) (b_cons (t_ret (s_tup (s_acons s_str (s_acons (s_var 5) (s_acons (s_var 6) (s_acons (s_var 7) s_anil))))))
    b_nil) b_nil)
    b_nil)) b_nil)
    b_nil))
    b_nil))
    (b_cons (t_ret s_non)
    b_nil))))
theorem d15 (φ : Fx K mg) (F : Fs P w K mg base C k) (hr : Room (k + 1) (A.deeper (envOfC "first_places" (defScope st15) s.heap.objs.size (He.ga K "first_places") cdv))) :
    SSs (cxOf (L2.CX P w) P w K mg base N15 "first_places" (defScope st15) (He.ga K "first_places") cdv A outer s H E) (tt K) C (fun c d _ H => E c d H) fu (defBody st15) ir_first_places := by
  have hN := sc15.nd
  have u0 := room0 hr
  have u64 := room64 hr
  have u65 := room65 hr
  exact (b_cons (t_set (i := 2) hN (s_new s_anil))
    (b_cons (t_forR (passes_of rfl) rfl (i_enum rfl φ.b_enumerate (s_var 1)) (g_tupR rfl (g_cons it_T (g_name 3 hN) (g_cons it_T (g_name 4 hN) (g_nil it_T)))) (b_cons (t_if (t_not (t_vl (s_lc [("ahead", 5)] rfl hN (i_seq (s_slc (s_var 1) s_onone (s_osome (s_var 3)))) (fun _ _ _ _ _ => (g_name 5 hN)) (fun _ _ _ _ _ => (c_one (t_not (t_vl (s_call F.f8 (room1 hr) takes_F rfl φ.g_may (s_acons (s_var 0) (s_acons (s_var 5) (s_acons (s_var 4) s_anil)))))))) (fun _ _ _ _ _ => (s_var 5))))) (b_cons (t_exp (s_mthL (by simp) PySem.F.slot_list_append PySem.F.type_list_append m_append (s_var 2) (s_acons (s_var 3) s_anil)))
    b_nil) b_nil)
    b_nil))
    (b_cons (t_fz 2 (t_ret (s_var 2)))
    b_nil)))
theorem d16 (φ : Fx K mg) (F : Fs P w K mg base C k) (hr : Room (k + 1) (A.deeper (envOfC "without" (defScope st16) s.heap.objs.size (He.ga K "without") cdv))) :
    SSs (cxOf (L2.CX P w) P w K mg base N16 "without" (defScope st16) (He.ga K "without") cdv A outer s H E) (tt K) C (fun c d _ H => E c d H) fu (defBody st16) ir_without := by
  have hN := sc16.nd
  have u0 := room0 hr
  have u64 := room64 hr
  have u65 := room65 hr
  exact (b_cons (t_ret (s_tuple rfl φ.b_tuple (s_lcR [("place", 2), ("letter", 3)] rfl hN (i_enum rfl φ.b_enumerate (s_var 0)) (fun _ _ _ _ _ => (g_tupR rfl (g_cons it_W (g_name 2 hN) (g_cons it_W (g_name 3 hN) (g_nil it_W))))) (fun _ _ _ _ _ => (c_one (t_cmp (c_notIn u65) (s_var 2) (s_var 1)))) (fun _ _ _ _ _ => (s_var 3)))))
    b_nil)
theorem d17 (φ : Fx K mg) (F : Fs P w K mg base C k) (hr : Room (k + 1) (A.deeper (envOfC "least_of" (defScope st17) s.heap.objs.size (He.ga K "least_of") cdv))) :
    SSs (cxOf (L2.CX P w) P w K mg base N17 "least_of" (defScope st17) (He.ga K "least_of") cdv A outer s H E) (tt K) C (fun c d _ H => E c d H) fu (defBody st17) ir_least_of := by
  have hN := sc17.nd
  have u0 := room0 hr
  have u64 := room64 hr
  have u65 := room65 hr
  exact (b_cons (t_set (i := 2) hN (s_new s_anil))
    (b_cons (t_set (i := 3) hN (s_var 1))
    (b_cons (t_while (passes_of rfl) (t_vl (s_var 3)) (b_cons (t_asg (s_min1 rfl (room_ok hr) rfl φ.b_min (s_lc [("place", 5)] rfl hN (i_seq (s_call F.f15 (room1 hr) (takes_of rfl rfl rfl rfl) rfl φ.g_first_places (s_acons (s_var 0) (s_acons (s_var 3) s_anil)))) (fun _ _ _ _ _ => (g_name 5 hN)) (fun _ _ _ _ _ => c_nil) (fun _ _ _ _ _ => (s_tup (s_acons (s_sub u65 (s_var 3) (s_var 5)) (s_acons (s_var 5) s_anil)))))) (g_tup rfl (g_cons it_T (g_name 4 hN) (g_cons it_T (g_name 5 hN) (g_nil it_T)))))
    (b_cons (t_exp (s_mthL (by simp) PySem.F.slot_list_append PySem.F.type_list_append m_append (s_var 2) (s_acons (s_var 4) s_anil)))
    (b_cons (t_set (i := 3) hN (s_call F.f16 (room1 hr) (takes_of rfl rfl rfl rfl) rfl φ.g_without (s_acons (s_var 3) (s_acons (s_lst (s_acons (s_var 5) s_anil)) s_anil))))
    b_nil))))
    (b_cons (t_fz 2 (t_ret (s_tuple rfl φ.b_tuple (s_var 2))))
    b_nil))))
theorem d18 (φ : Fx K mg) (F : Fs P w K mg base C k) (hr : Room (k + 1) (A.deeper (envOfC "least" (defScope st18) s.heap.objs.size (He.ga K "least") cdv))) :
    SSs (cxOf (L2.CX P w) P w K mg base N18 "least" (defScope st18) (He.ga K "least") cdv A outer s H E) (tt K) C (fun c d _ H => E c d H) fu (defBody st18) ir_least := by
  have hN := sc18.nd
  have u0 := room0 hr
  have u64 := room64 hr
  have u65 := room65 hr
  exact (b_cons (t_exp (s_call F.f10 (room1 hr) (takes_of rfl rfl rfl rfl) rfl φ.g_check_row (s_acons (s_var 0) (s_acons (s_var 1) s_anil))))
    (b_cons (t_ret (s_call F.f17 (room1 hr) (takes_of rfl rfl rfl rfl) rfl φ.g_least_of (s_acons (s_var 0) (s_acons (s_var 1) s_anil))))
    b_nil))
theorem d19 (φ : Fx K mg) (F : Fs P w K mg base C k) (hr : Room (k + 1) (A.deeper (envOfC "groups_of" (defScope st19) s.heap.objs.size (He.ga K "groups_of") cdv))) :
    SSs (cxOf (L2.CX P w) P w K mg base N19 "groups_of" (defScope st19) (He.ga K "groups_of") cdv A outer s H E) (tt K) C (fun c d _ H => E c d H) fu (defBody st19) ir_groups_of := by
  have hN := sc19.nd
  have u0 := room0 hr
  have u64 := room64 hr
  have u65 := room65 hr
  exact (b_cons (t_set (i := 2) hN (s_lst s_anil))
    (b_cons (t_for (passes_of rfl) rfl (i_seq (s_sortedSet rfl rfl φ.b_sorted rfl φ.b_set (s_var 1))) (g_name 3 hN) (b_cons (t_set (i := 4) hN (s_new (s_acons (s_var 3) s_anil)))
    (b_cons (t_set (i := 5) hN (s_new s_anil))
    (b_cons (t_for (passes_of rfl) rfl (i_seq (s_var 2)) (g_name 6 hN) (b_cons (t_if (t_vl (s_lc [("other", 7)] rfl hN (i_seq (s_var 6)) (fun _ _ _ _ _ => (g_name 7 hN)) (fun _ _ _ _ _ => (c_one (t_not (t_vl (s_call F.f8 (room1 hr) takes_F rfl φ.g_may (s_acons (s_var 0) (s_acons (s_var 7) (s_acons (s_var 3) s_anil)))))))) (fun _ _ _ _ _ => (s_var 7)))) (b_cons (t_exp (s_mthL (by simp) PySem.F.slot_list_extend PySem.F.type_list_extend m_extend (s_var 4) (s_acons (s_var 6) s_anil)))
    b_nil) (b_cons (t_exp (s_mthL (by simp) PySem.F.slot_list_append PySem.F.type_list_append m_append (s_var 5) (s_acons (s_var 6) s_anil)))
    b_nil))
    b_nil))
    (b_cons (t_fz 5 (t_fz 4 (t_set (i := 2) hN (s_bin o_add (s_var 5) (s_lst (s_acons (s_var 4) s_anil))))))
    b_nil)))))
    (b_cons (t_ret (s_var 2))
    b_nil)))
theorem d20 (φ : Fx K mg) (F : Fs P w K mg base C k) (hr : Room (k + 1) (A.deeper (envOfC "parts" (defScope st20) s.heap.objs.size (He.ga K "parts") cdv))) :
    SSs (cxOf (L2.CX P w) P w K mg base N20 "parts" (defScope st20) (He.ga K "parts") cdv A outer s H E) (tt K) C (fun c d _ H => E c d H) fu (defBody st20) ir_parts := by
  have hN := sc20.nd
  have u0 := room0 hr
  have u64 := room64 hr
  have u65 := room65 hr
  exact (b_cons (t_exp (s_call F.f10 (room1 hr) (takes_of rfl rfl rfl rfl) rfl φ.g_check_row (s_acons (s_var 0) (s_acons (s_var 1) s_anil))))
    (b_cons (t_ret (s_sorted (room_ok hr) rfl φ.b_sorted (s_lc [("group", 2)] rfl hN (i_seq (s_call F.f19 (room1 hr) (takes_of rfl rfl rfl rfl) rfl φ.g_groups_of (s_acons (s_var 0) (s_acons (s_var 1) s_anil)))) (fun _ _ _ _ _ => (g_name 2 hN)) (fun _ _ _ _ _ => c_nil) (fun _ _ _ _ _ => (s_call F.f17 (room1 hr) takes_F rfl φ.g_least_of (s_acons (s_var 0) (s_acons (s_tuple rfl φ.b_tuple (s_call F.f12 (room1 hr) takes_F rfl φ.g_only (s_acons (s_var 1) (s_acons (s_var 2) s_anil)))) s_anil)))))))
    b_nil))
theorem d21 (φ : Fx K mg) (F : Fs P w K mg base C k) (hr : Room (k + 1) (A.deeper (envOfC "power" (defScope st21) s.heap.objs.size (He.ga K "power") cdv))) :
    SSs (cxOf (L2.CX P w) P w K mg base N21 "power" (defScope st21) (He.ga K "power") cdv A outer s H E) (tt K) C (fun c d _ H => E c d H) fu (defBody st21) ir_power := by
  have hN := sc21.nd
  have u0 := room0 hr
  have u64 := room64 hr
  have u65 := room65 hr
  exact (b_cons (t_exp (s_call F.f10 (room1 hr) (takes_of rfl rfl rfl rfl) rfl φ.g_check_row (s_acons (s_var 0) (s_acons (s_var 1) s_anil))))
    (b_cons (t_if (t_not (t_vl (s_call F.f1 (room1 hr) (takes_of rfl rfl rfl rfl) rfl φ.g_is_from (s_acons (s_var 2) (s_acons s_int (s_acons (s_glbI rfl φ.i_MOST_TIMES) s_anil)))))) (b_cons (t_rse0 (c := 6) φ.x_BadNumber rfl (takes_of rfl rfl rfl rfl) rfl φ.g_BadNumber)
    b_nil) b_nil)
    (b_cons (t_if (t_cmp (c_gt u0) (s_bin o_mul (s_len rfl φ.b_len (s_var 1)) (s_var 2)) (s_glbI rfl φ.i_MOST_ROW)) (b_cons (t_rse0 (c := 7) φ.x_TooLong rfl (takes_of rfl rfl rfl rfl) rfl φ.g_TooLong)
    b_nil) b_nil)
    (b_cons (t_ret (s_call F.f17 (room1 hr) (takes_of rfl rfl rfl rfl) rfl φ.g_least_of (s_acons (s_var 0) (s_acons (s_bin o_mul (s_var 1) (s_var 2)) s_anil))))
    b_nil))))
theorem d22 (φ : Fx K mg) (F : Fs P w K mg base C k) (hr : Room (k + 1) (A.deeper (envOfC "first_part" (defScope st22) s.heap.objs.size (He.ga K "first_part") cdv))) :
    SSs (cxOf (L2.CX P w) P w K mg base N22 "first_part" (defScope st22) (He.ga K "first_part") cdv A outer s H E) (tt K) C (fun c d _ H => E c d H) fu (defBody st22) ir_first_part := by
  have hN := sc22.nd
  have u0 := room0 hr
  have u64 := room64 hr
  have u65 := room65 hr
  exact (b_cons (t_set (i := 2) hN s_dnew)
    (b_cons (t_set (i := 3) hN (s_new s_anil))
    (b_cons (t_for (passes_of rfl) rfl (i_seq (s_var 0)) (g_name 4 hN) (b_cons (t_set (i := 5) hN (s_get u65 (s_var 2) (s_acons (s_var 4) (s_acons s_int s_anil))))
    (b_cons (t_if (t_cmp (c_lt u0) (s_var 5) (s_bin o_fdiv (s_mthT PySem.F.slot_tuple_count PySem.F.type_tuple_count m_countT (s_var 0) (s_acons (s_var 4) s_anil)) (s_var 1))) (b_cons (t_exp (s_mthL (by simp) PySem.F.slot_list_append PySem.F.type_list_append m_append (s_var 3) (s_acons (s_var 4) s_anil)))
    b_nil) b_nil)
    (b_cons (t_asg (s_bin o_add (s_var 5) s_int) (g_sub it_T u65 (s_var 2) (s_var 4)))
    b_nil))))
    (b_cons (t_fz 3 (t_ret (s_tuple rfl φ.b_tuple (s_var 3))))
    b_nil))))
theorem d23 (φ : Fx K mg) (F : Fs P w K mg base C k) (hr : Room (k + 1) (A.deeper (envOfC "root" (defScope st23) s.heap.objs.size (He.ga K "root") cdv))) :
    SSs (cxOf (L2.CX P w) P w K mg base N23 "root" (defScope st23) (He.ga K "root") cdv A outer s H E) (tt K) C (fun c d _ H => E c d H) fu (defBody st23) ir_root := by
  have hN := sc23.nd
  have u0 := room0 hr
  have u64 := room64 hr
  have u65 := room65 hr
  exact (b_cons (t_exp (s_call F.f10 (room1 hr) (takes_of rfl rfl rfl rfl) rfl φ.g_check_row (s_acons (s_var 0) (s_acons (s_var 1) s_anil))))
    (b_cons (t_for (passes_of rfl) rfl (i_rvr rfl φ.b_reversed (r_2 rfl φ.b_range s_int (s_bin o_add (s_len rfl φ.b_len (s_var 1)) s_int))) (g_name 2 hN) (b_cons (t_if (t_not (t_vl (s_lc [("letter", 3)] rfl hN (i_seq (s_var 1)) (fun _ _ _ _ _ => (g_name 3 hN)) (fun _ _ _ _ _ => (c_one (t_vl (s_bin o_mod (s_mthT PySem.F.slot_tuple_count PySem.F.type_tuple_count m_countT (s_var 1) (s_acons (s_var 3) s_anil)) (s_var 2))))) (fun _ _ _ _ _ => (s_var 3))))) (b_cons (t_set (i := 4) hN (s_call F.f22 (room1 hr) (takes_of rfl rfl rfl rfl) rfl φ.g_first_part (s_acons (s_var 1) (s_acons (s_var 2) s_anil))))
    (b_cons (t_if (t_cmp c_isN (s_call F.f14 (room1 hr) (takes_of rfl rfl rfl rfl) rfl φ.g_bar_of (s_acons (s_var 0) (s_acons (s_bin o_mul (s_var 4) (s_var 2)) (s_acons (s_var 1) s_anil)))) s_non) (b_cons (t_ret (s_tup (s_acons (s_call F.f17 (room1 hr) (takes_of rfl rfl rfl rfl) rfl φ.g_least_of (s_acons (s_var 0) (s_acons (s_var 4) s_anil))) (s_acons (s_var 2) s_anil))))
    b_nil) b_nil)
    b_nil)) b_nil)
    b_nil))
    (b_cons (t_ret (s_tup (s_acons (s_call F.f17 (room1 hr) (takes_of rfl rfl rfl rfl) rfl φ.g_least_of (s_acons (s_var 0) (s_acons (s_var 1) s_anil))) (s_acons s_int s_anil))))
    b_nil)))
theorem d24 (φ : Fx K mg) (F : Fs P w K mg base C k) (hr : Room (k + 1) (A.deeper (envOfC "either_way" (defScope st24) s.heap.objs.size (He.ga K "either_way") cdv))) :
    SSs (cxOf (L2.CX P w) P w K mg base N24 "either_way" (defScope st24) (He.ga K "either_way") cdv A outer s H E) (tt K) C (fun c d _ H => E c d H) fu (defBody st24) ir_either_way := by
  have hN := sc24.nd
  have u0 := room0 hr
  have u64 := room64 hr
  have u65 := room65 hr
  exact (b_cons (t_exp (s_call F.f11 (room1 hr) (takes_of rfl rfl rfl rfl) rfl φ.g_check_rows (s_acons (s_var 0) (s_acons (s_var 1) (s_acons (s_var 2) s_anil)))))
    (b_cons (t_ret (s_cmp c_isN (s_call F.f14 (room1 hr) (takes_of rfl rfl rfl rfl) rfl φ.g_bar_of (s_acons (s_var 0) (s_acons (s_bin o_add (s_var 1) (s_var 2)) (s_acons (s_bin o_add (s_var 2) (s_var 1)) s_anil)))) s_non))
    b_nil))
theorem d25 (φ : Fx K mg) (F : Fs P w K mg base C k) (hr : Room (k + 1) (A.deeper (envOfC "_law_mix" (defScope st25) s.heap.objs.size (He.ga K "_law_mix") cdv))) :
    PSs (cxOf (L2.CX P w) P w K mg base N25 "_law_mix" (defScope st25) (He.ga K "_law_mix") cdv A outer s H E) (defBody st25) (t_mix K) := by
  have hN := sc25.nd
  have pi : CallR (cxOf (L2.CX P w) P w K mg base N25 "_law_mix" (defScope st25) (He.ga K "_law_mix") cdv A outer s H E) (.type "int") rInt1 := call_int1
  exact pss_cons (ps_set (i := 2) hN rfl (.inl rfl) (pe_var (i := 1) rfl (.inl rfl))) (pss_cons (ps_for (passes_of rfl) rfl (pi_list (pe_var (i := 0) rfl (.inl rfl))) (pg_name (i := 3) hN rfl (.inl rfl)) (pss_one (ps_set (i := 2) hN rfl (.inl rfl) (pe_op op_mod (pe_callTy pi rfl φ.b_int PyProof.Rows.boot_int (pa_cons (pe_op op_add (pe_op op_add (pe_op op_mul (pe_var (i := 2) rfl (.inl rfl)) pe_int) (pe_op op_mod (pe_callTy pi rfl φ.b_int PyProof.Rows.boot_int (pa_cons (pe_var (i := 3) rfl (.inl rfl)) pa_nil)) pe_int)) pe_int) pa_nil)) pe_int)))) (pss_one (ps_ret (pe_lst (pa_cons (pe_var (i := 2) rfl (.inl rfl)) (pa_cons (pe_callTy call_list_of rfl φ.b_list PyProof.Rows.boot_list (pa_cons (pe_var (i := 0) rfl (.inl rfl)) pa_nil)) (pa_cons pe_int pa_nil)))))))
theorem d26 (φ : Fx K mg) (F : Fs P w K mg base C k) (hr : Room (k + 1) (A.deeper (envOfC "_law_next" (defScope st26) s.heap.objs.size (He.ga K "_law_next") cdv))) :
    PSs (cxOf (L2.CX P w) P w K mg base N26 "_law_next" (defScope st26) (He.ga K "_law_next") cdv A outer s H E) (defBody st26) (t_next K) := by
  have hN := sc26.nd
  have pi : CallR (cxOf (L2.CX P w) P w K mg base N26 "_law_next" (defScope st26) (He.ga K "_law_next") cdv A outer s H E) (.type "int") rInt1 := call_int1
  exact pss_cons (ps_set (i := 2) hN rfl (.inl rfl) (pe_ix ix_list (pe_op op_cat (pe_ix ix_list (pe_var (i := 0) rfl (.inl rfl)) pe_int (fun _ _ => rfl)) (pe_lst (pa_cons pe_int pa_nil))) (pe_op op_mod (pe_callTy pi rfl φ.b_int PyProof.Rows.boot_int (pa_cons (pe_ix ix_list (pe_var (i := 0) rfl (.inl rfl)) pe_int (fun _ _ => rfl)) pa_nil)) (pe_callB (call_max2 rfl) rfl φ.b_max PyProof.Rows.boot_max (pa_cons pe_int (pa_cons (pe_callB call_len_seq rfl φ.b_len PySem.boot_len (pa_cons (pe_ix ix_list (pe_var (i := 0) rfl (.inl rfl)) pe_int (fun _ _ => rfl)) pa_nil)) pa_nil)))) (fun _ _ => rfl))) (pss_cons (ps_if (pt_cmpR op_ge (pe_var (i := 2) rfl (.inl rfl)) (pe_op op_pow pe_int pe_int) (nomark _)) (pss_cons (ps_set (i := 3) hN rfl (.inl rfl) (pe_ix ix_list (pe_var (i := 0) rfl (.inl rfl)) pe_int (fun _ _ => rfl))) (pss_cons (ps_asg (pe_op op_fdivW (pe_var (i := 2) rfl (.inl rfl)) (pe_var (i := 1) rfl (.inl rfl))) (pg_sub (pe_var (i := 3) rfl (.inl rfl)) (pe_op op_mod (pe_callTy pi rfl φ.b_int PyProof.Rows.boot_int (pa_cons (pe_ix ix_list (pe_var (i := 0) rfl (.inl rfl)) pe_int (fun _ _ => rfl)) pa_nil)) (pe_callB call_len_seq rfl φ.b_len PySem.boot_len (pa_cons (pe_var (i := 3) rfl (.inl rfl)) pa_nil))) set_list)) (pss_one (ps_ret (pe_op op_mod (pe_callTy pi rfl φ.b_int PyProof.Rows.boot_int (pa_cons (pe_var (i := 2) rfl (.inl rfl)) pa_nil)) (pe_var (i := 1) rfl (.inl rfl))))))) pss_nil) (pss_cons (ps_asg (pe_op op_mod (pe_callTy pi rfl φ.b_int PyProof.Rows.boot_int (pa_cons (pe_op op_add (pe_op op_add (pe_op op_mul (pe_ix ix_list (pe_var (i := 0) rfl (.inl rfl)) pe_int (fun _ _ => rfl)) pe_int) (pe_op op_mul (pe_var (i := 2) rfl (.inl rfl)) pe_int)) pe_int) pa_nil)) pe_int) (pg_sub (pe_var (i := 0) rfl (.inl rfl)) pe_int set_list)) (pss_cons (ps_asg (pe_op op_add (pe_ix ix_list (pe_var (i := 0) rfl (.inl rfl)) pe_int (fun _ _ => rfl)) pe_int) (pg_sub (pe_var (i := 0) rfl (.inl rfl)) pe_int set_list)) (pss_one (ps_ret (pe_op op_mod (pe_callTy pi rfl φ.b_int PyProof.Rows.boot_int (pa_cons (pe_op op_fdivW (pe_ix ix_list (pe_var (i := 0) rfl (.inl rfl)) pe_int (fun _ _ => rfl)) pe_int) pa_nil)) (pe_var (i := 1) rfl (.inl rfl))))))))
theorem d27 (φ : Fx K mg) (F : Fs P w K mg base C k) (hr : Room (k + 1) (A.deeper (envOfC "_law_pairs" (defScope st27) s.heap.objs.size (He.ga K "_law_pairs") cdv))) :
    SSs (cxOf (L2.CX P w) P w K mg base N27 "_law_pairs" (defScope st27) (He.ga K "_law_pairs") cdv A outer s H E) (tt K) C (fun c d _ H => E c d H) fu (defBody st27) ir__law_pairs := by
  have hN := sc27.nd
  have u0 := room0 hr
  have u64 := room64 hr
  have u65 := room65 hr
  exact (b_cons (t_par (i := 2) (j := 3) rfl hN (s_acons (s_call F.f26 (room1 hr) (takes_of rfl rfl rfl rfl) rfl φ.g__law_next (s_acons (s_var 0) (s_acons s_int s_anil))) (s_acons (s_new s_anil) s_anil)))
    (b_cons (t_for (passes_of rfl) rfl (i_rng1 rfl φ.b_range (s_var 1)) (g_name 4 hN) (b_cons (t_for (passes_of rfl) rfl (i_rng2 rfl φ.b_range (s_bin o_add (s_var 4) s_int) (s_var 1)) (g_name 5 hN) (b_cons (t_if (PW.pt (w_or (t_cmp (c_eq u64) (s_var 2) s_int) (w_or1 (PW.pt (w_and (t_cmp (c_lt u0) (s_var 2) s_int) (w_and1 (t_cmp (c_eq u64) (s_call F.f26 (room1 hr) (takes_of rfl rfl rfl rfl) rfl φ.g__law_next (s_acons (s_var 0) (s_acons s_int s_anil))) s_int))))))) (b_cons (t_exp (s_mthL (by simp) PySem.F.slot_list_append PySem.F.type_list_append m_append (s_var 3) (s_acons (s_tup (s_acons (s_var 4) (s_acons (s_var 5) s_anil))) s_anil)))
    b_nil) b_nil)
    b_nil))
    b_nil))
    (b_cons (t_fz 3 (t_ret (s_tuple rfl φ.b_tuple (s_var 3))))
    b_nil)))
theorem d28 (φ : Fx K mg) (F : Fs P w K mg base C k) (hr : Room (k + 1) (A.deeper (envOfC "_law_row" (defScope st28) s.heap.objs.size (He.ga K "_law_row") cdv))) :
    SSs (cxOf (L2.CX P w) P w K mg base N28 "_law_row" (defScope st28) (He.ga K "_law_row") cdv A outer s H E) (tt K) C (fun c d _ H => E c d H) fu (defBody st28) ir__law_row := by
  have hN := sc28.nd
  have u0 := room0 hr
  have u64 := room64 hr
  have u65 := room65 hr
  exact (b_cons (t_ret (s_tuple rfl φ.b_tuple (s_lc [("_law_k", 3)] rfl hN (i_rng1 rfl φ.b_range (s_call F.f26 (room1 hr) (takes_of rfl rfl rfl rfl) rfl φ.g__law_next (s_acons (s_var 0) (s_acons (s_bin o_add (s_var 2) s_int) s_anil)))) (fun _ _ _ _ _ => (g_name 3 hN)) (fun _ _ _ _ _ => c_nil) (fun _ _ _ _ _ => (s_call F.f26 (room1 hr) takes_F rfl φ.g__law_next (s_acons (s_var 0) (s_acons (s_var 1) s_anil)))))))
    b_nil)
theorem d29 (φ : Fx K mg) (F : Fs P w K mg base C k) (hr : Room (k + 1) (A.deeper (envOfC "_law_may" (defScope st29) s.heap.objs.size (He.ga K "_law_may") cdv))) :
    SSs (cxOf (L2.CX P w) P w K mg base N29 "_law_may" (defScope st29) (He.ga K "_law_may") cdv A outer s H E) (tt K) C (fun c d _ H => E c d H) fu (defBody st29) ir__law_may := by
  have hN := sc29.nd
  have u0 := room0 hr
  have u64 := room64 hr
  have u65 := room65 hr
  exact (b_cons (t_ret (s_or (s_cmp (c_in u65) (s_tup (s_acons (s_var 1) (s_acons (s_var 2) s_anil))) (s_var 0)) (s_one (s_cmp (c_in u65) (s_tup (s_acons (s_var 2) (s_acons (s_var 1) s_anil))) (s_var 0)))))
    b_nil)
theorem d30 (φ : Fx K mg) (F : Fs P w K mg base C k) (hr : Room (k + 1) (A.deeper (envOfC "_law_shaken" (defScope st30) s.heap.objs.size (He.ga K "_law_shaken") cdv))) :
    SSs (cxOf (L2.CX P w) P w K mg base N30 "_law_shaken" (defScope st30) (He.ga K "_law_shaken") cdv A outer s H E) (tt K) C (fun c d _ H => E c d H) fu (defBody st30) ir__law_shaken := by
  have hN := sc30.nd
  have u0 := room0 hr
  have u64 := room64 hr
  have u65 := room65 hr
  exact (b_cons (t_set (i := 4) hN (s_list rfl rfl φ.b_list (s_var 2)))
    (b_cons (t_for (passes_of rfl) rfl (i_rng1 rfl φ.b_range (s_var 3)) (g_name 5 hN) (b_cons (t_set (i := 6) hN (s_call F.f26 (room1 hr) (takes_of rfl rfl rfl rfl) rfl φ.g__law_next (s_acons (s_var 0) (s_acons (s_max2 rfl rfl φ.b_max s_int (s_bin o_sub (s_len rfl φ.b_len (s_var 4)) s_int)) s_anil))))
    (b_cons (t_if (PW.pt (w_and (t_cmp (c_lt u0) (s_bin o_add (s_var 6) s_int) (s_len rfl φ.b_len (s_var 4))) (w_and1 (t_vl (s_call F.f29 (room1 hr) (takes_of rfl rfl rfl rfl) rfl φ.g__law_may (s_acons (s_var 1) (s_acons (s_sub u65 (s_var 4) (s_var 6)) (s_acons (s_sub u65 (s_var 4) (s_bin o_add (s_var 6) s_int)) s_anil)))))))) (b_cons (t_set (i := 4) hN (s_bin o_add (s_bin o_add (s_slc (s_var 4) s_onone (s_osome (s_var 6))) (s_lst (s_acons (s_sub u65 (s_var 4) (s_bin o_add (s_var 6) s_int)) (s_acons (s_sub u65 (s_var 4) (s_var 6)) s_anil)))) (s_slc (s_var 4) (s_osome (s_bin o_add (s_var 6) s_int)) s_onone)))
    b_nil) b_nil)
    b_nil)))
    (b_cons (t_ret (s_tuple rfl φ.b_tuple (s_var 4)))
    b_nil)))
theorem d31 (φ : Fx K mg) (F : Fs P w K mg base C k) (hr : Room (k + 1) (A.deeper (envOfC "_law_class" (defScope st31) s.heap.objs.size (He.ga K "_law_class") cdv))) :
    SSs (cxOf (L2.CX P w) P w K mg base N31 "_law_class" (defScope st31) (He.ga K "_law_class") cdv A outer s H E) (tt K) C (fun c d _ H => E c d H) fu (defBody st31) ir__law_class := by
  have hN := sc31.nd
  have u0 := room0 hr
  have u64 := room64 hr
  have u65 := room65 hr
  exact (b_cons (t_par3 (i := 2) (j := 3) (l := 4) rfl hN (s_acons (s_dn1 u65 (s_var 1) s_int) (s_acons (s_lst (s_acons (s_var 1) s_anil)) (s_acons s_int s_anil))))
    (b_cons (t_while (passes_of rfl) (t_cmp (c_ne u64) (s_var 3) (s_lst s_anil)) (b_cons (t_par (i := 5) (j := 4) rfl hN (s_acons (s_new s_anil) (s_acons (s_bin o_add (s_var 4) s_int) s_anil)))
    (b_cons (t_for (passes_of rfl) rfl (i_seq (s_var 3)) (g_name 6 hN) (b_cons (t_for (passes_of rfl) rfl (i_rng1 rfl φ.b_range (s_bin o_sub (s_len rfl φ.b_len (s_var 6)) s_int)) (g_name 7 hN) (b_cons (t_if (t_vl (s_call F.f29 (room1 hr) (takes_of rfl rfl rfl rfl) rfl φ.g__law_may (s_acons (s_var 0) (s_acons (s_sub u65 (s_var 6) (s_var 7)) (s_acons (s_sub u65 (s_var 6) (s_bin o_add (s_var 7) s_int)) s_anil))))) (b_cons (t_set (i := 8) hN (s_bin o_add (s_bin o_add (s_slc (s_var 6) s_onone (s_osome (s_var 7))) (s_tup (s_acons (s_sub u65 (s_var 6) (s_bin o_add (s_var 7) s_int)) (s_acons (s_sub u65 (s_var 6) (s_var 7)) s_anil)))) (s_slc (s_var 6) (s_osome (s_bin o_add (s_var 7) s_int)) s_onone)))
    (b_cons (t_if (t_cmp (c_notIn u65) (s_var 8) (s_var 2)) (b_cons (t_asg (s_var 4) (g_sub it_T u65 (s_var 2) (s_var 8)))
    (b_cons (t_exp (s_mthL (by simp) PySem.F.slot_list_append PySem.F.type_list_append m_append (s_var 5) (s_acons (s_var 8) s_anil)))
    b_nil)) b_nil)
    b_nil)) b_nil)
    b_nil))
    b_nil))
    (b_cons (t_fz 5 (t_set (i := 3) hN (s_var 5)))
    b_nil))))
    (b_cons (t_fz 2 (t_ret (s_var 2)))
    b_nil)))
theorem d32 (φ : Fx K mg) (F : Fs P w K mg base C k) (hr : Room (k + 1) (A.deeper (envOfC "_law_root" (defScope st32) s.heap.objs.size (He.ga K "_law_root") cdv))) :
    SSs (cxOf (L2.CX P w) P w K mg base N32 "_law_root" (defScope st32) (He.ga K "_law_root") cdv A outer s H E) (tt K) C (fun c d _ H => E c d H) fu (defBody st32) ir__law_root := by
  have hN := sc32.nd
  have u0 := room0 hr
  have u64 := room64 hr
  have u65 := room65 hr
  exact (b_cons (t_set (i := 2) hN (s_call F.f31 (room1 hr) (takes_of rfl rfl rfl rfl) rfl φ.g__law_class (s_acons (s_var 0) (s_acons (s_var 1) s_anil))))
    (b_cons (t_for (passes_of rfl) rfl (i_rngD rfl φ.b_range (s_len rfl φ.b_len (s_var 1)) s_int s_m1) (g_name 3 hN) (b_cons (t_set (i := 4) hN (s_bin o_fdiv (s_len rfl φ.b_len (s_var 1)) (s_var 3)))
    (b_cons (t_if (t_cmp (c_eq u64) (s_bin o_mul (s_var 4) (s_var 3)) (s_len rfl φ.b_len (s_var 1))) (b_cons (by first | exact t_setLc (i := 5) [("_law_here", 6)] rfl hN (i_seq (s_var 2)) (fun _ _ _ _ _ => (g_name 6 hN)) (fun _ _ _ _ _ => (c_one (t_cmp (c_eq u64) (s_bin o_mul (s_slc (s_var 6) s_onone (s_osome (s_var 4))) (s_var 3)) (s_var 6)))) (fun _ _ _ _ _ => (s_slc (s_var 6) s_onone (s_osome (s_var 4)))) | exact t_set (i := 5) hN (s_lc [("_law_here", 6)] rfl hN (i_seq (s_var 2)) (fun _ _ _ _ _ => (g_name 6 hN)) (fun _ _ _ _ _ => (c_one (t_cmp (c_eq u64) (s_bin o_mul (s_slc (s_var 6) s_onone (s_osome (s_var 4))) (s_var 3)) (s_var 6)))) (fun _ _ _ _ _ => (s_slc (s_var 6) s_onone (s_osome (s_var 4))))))
    (b_cons (t_if (t_cmp (c_ne u64) (s_var 5) (s_lst s_anil)) (b_cons (t_ret (s_tup (s_acons (s_min1 rfl (room_ok hr) rfl φ.b_min (s_var 5)) (s_acons (s_var 3) s_anil))))
    b_nil) b_nil)
    b_nil)) b_nil)
    b_nil)))
    (b_cons (t_ret (s_tup (s_acons (s_minK rfl (room_ok hr) rfl φ.b_min (s_var 2)) (s_acons s_int s_anil))))
    b_nil)))
theorem d33 (φ : Fx K mg) (F : Fs P w K mg base C k) (hr : Room (k + 1) (A.deeper (envOfC "_law_power" (defScope st33) s.heap.objs.size (He.ga K "_law_power") cdv))) :
    SSs (cxOf (L2.CX P w) P w K mg base N33 "_law_power" (defScope st33) (He.ga K "_law_power") cdv A outer s H E) (tt K) C (fun c d _ H => E c d H) fu (defBody st33) ir__law_power := by
  have hN := sc33.nd
  have u0 := room0 hr
  have u64 := room64 hr
  have u65 := room65 hr
  exact (b_cons (t_try rfl rfl hN (takes_of rfl rfl rfl rfl) (fun _ _ _ tk po => (b_cons (t_ret (s_call F.f21 (room1 hr) tk rfl φ.g_power (s_acons (s_var 0) (s_acons (s_var 1) (s_acons (s_var 2) s_anil)))))
    b_nil)) (SH.cons ⟨rfl, by decide, .inl φ.g_TooLong⟩ (tb_cons φ.m_BadLetters_TooLong (tb_cons φ.m_BadPairs_TooLong (tb_cons φ.m_BadTrade_TooLong (tb_cons φ.m_BadRow_TooLong (tb_cons φ.m_BadNumber_TooLong (tb_cons φ.m_TooLong_TooLong tb_nil)))))) trivial (fun _ _ => (b_cons (t_ret s_non)
    b_nil)) SH.nil))
    b_nil)
theorem d34 (φ : Fx K mg) (F : Fs P w K mg base C k) (hr : Room (k + 1) (A.deeper (envOfC "law" (defScope st34) s.heap.objs.size (He.ga K "law") cdv))) :
    SSs (cxOf (L2.CX P w) P w K mg base N34 "law" (defScope st34) (He.ga K "law") cdv A outer s H E) (tt K) C (fun c d _ H => E c d H) fu (defBody st34) ir_law := by
  have hN := sc34.nd
  have u0 := room0 hr
  have u64 := room64 hr
  have u65 := room65 hr
  exact (b_cons (t_set (i := 1) hN (s_call F.f25 (room1 hr) (takes_of rfl rfl rfl rfl) rfl φ.g__law_mix (s_acons (s_var 0) (s_acons s_int s_anil))))
    (b_cons (t_set (i := 2) hN (s_bin o_add s_int (s_call F.f26 (room1 hr) (takes_of rfl rfl rfl rfl) rfl φ.g__law_next (s_acons (s_var 1) (s_acons s_int s_anil)))))
    (b_cons (t_set (i := 3) hN (s_call F.f27 (room1 hr) (takes_of rfl rfl rfl rfl) rfl φ.g__law_pairs (s_acons (s_var 1) (s_acons (s_var 2) s_anil))))
    (b_cons (t_set (i := 4) hN (s_mk φ.m_Trade F.f3 hr (takes_of rfl rfl rfl rfl) rfl φ.g_Trade (.inr rfl) (s_acons (s_var 2) (s_acons (s_var 3) s_anil))))
    (b_cons (t_set (i := 5) hN (s_call F.f28 (room1 hr) (takes_of rfl rfl rfl rfl) rfl φ.g__law_row (s_acons (s_var 1) (s_acons (s_var 2) (s_acons s_int s_anil)))))
    (b_cons (t_set (i := 6) hN (s_slc (s_call F.f30 (room1 hr) (takes_of rfl rfl rfl rfl) rfl φ.g__law_shaken (s_acons (s_var 1) (s_acons (s_var 3) (s_acons (s_bin o_mul (s_var 5) (s_sub u65 (s_lst (s_acons s_int (s_acons s_int (s_acons s_int (s_acons s_int s_anil))))) (s_call F.f26 (room1 hr) (takes_of rfl rfl rfl rfl) rfl φ.g__law_next (s_acons (s_var 1) (s_acons s_int s_anil))))) (s_acons s_int s_anil))))) s_onone (s_osome s_int)))
    (b_cons (t_if (t_cmp (c_ne u64) (s_call F.f23 (room1 hr) (takes_of rfl rfl rfl rfl) rfl φ.g_root (s_acons (s_var 4) (s_acons (s_var 6) s_anil))) (s_call F.f32 (room1 hr) (takes_of rfl rfl rfl rfl) rfl φ.g__law_root (s_acons (s_var 3) (s_acons (s_var 6) s_anil)))) (b_cons (t_ret s_bl)
    b_nil) b_nil)
    (b_cons (t_set (i := 7) hN (s_call F.f26 (room1 hr) (takes_of rfl rfl rfl rfl) rfl φ.g__law_next (s_acons (s_var 1) (s_acons s_int s_anil))))
    (b_cons (t_set (i := 8) hN (s_ife (t_cmp (c_le u0) (s_bin o_mul (s_len rfl φ.b_len (s_var 5)) (s_var 7)) s_int) (s_call F.f18 (room1 hr) (takes_of rfl rfl rfl rfl) rfl φ.g_least (s_acons (s_var 4) (s_acons (s_bin o_mul (s_var 5) (s_var 7)) s_anil))) s_non))
    (b_cons (t_set (i := 9) hN (s_call F.f33 (room1 hr) (takes_of rfl rfl rfl rfl) rfl φ.g__law_power (s_acons (s_var 4) (s_acons (s_var 5) (s_acons (s_var 7) s_anil)))))
    (b_cons (t_if (t_cmp (c_ne u64) (s_var 9) (s_var 8)) (b_cons (t_ret s_bl)
    b_nil) b_nil)
    (b_cons (t_if (PW.pt (w_and (t_cmp c_notN (s_var 8) s_non) (w_and (t_cmp (c_gt u0) (s_var 7) s_int) (w_and1 (t_cmp (c_ne u64) (s_var 5) (s_tup s_anil)))))) (b_cons (t_asg (s_call F.f23 (room1 hr) (takes_of rfl rfl rfl rfl) rfl φ.g_root (s_acons (s_var 4) (s_acons (s_var 5) s_anil))) (g_tup rfl (g_cons it_T (g_name 10 hN) (g_cons it_T (g_name 11 hN) (g_nil it_T)))))
    (b_cons (t_if (t_cmp (c_ne u64) (s_call F.f23 (room1 hr) (takes_of rfl rfl rfl rfl) rfl φ.g_root (s_acons (s_var 4) (s_acons (s_call F.f30 (room1 hr) (takes_of rfl rfl rfl rfl) rfl φ.g__law_shaken (s_acons (s_var 1) (s_acons (s_var 3) (s_acons (s_var 8) (s_acons s_int s_anil))))) s_anil))) (s_tup (s_acons (s_var 10) (s_acons (s_bin o_mul (s_var 11) (s_var 7)) s_anil)))) (b_cons (t_ret s_bl)
    b_nil) b_nil)
    b_nil)) b_nil)
    (b_cons (t_asg (s_tup (s_acons (s_var 6) (s_acons (s_call F.f30 (room1 hr) (takes_of rfl rfl rfl rfl) rfl φ.g__law_shaken (s_acons (s_var 1) (s_acons (s_var 3) (s_acons (s_bin o_mul (s_var 5) (s_bin o_add s_int (s_call F.f26 (room1 hr) (takes_of rfl rfl rfl rfl) rfl φ.g__law_next (s_acons (s_var 1) (s_acons s_int s_anil))))) (s_acons s_int s_anil))))) s_anil))) (g_tup rfl (g_cons it_T (g_name 12 hN) (g_cons it_T (g_name 13 hN) (g_nil it_T)))))
    (b_cons (t_if (t_cmp (c_eq u64) (s_call F.f26 (room1 hr) (takes_of rfl rfl rfl rfl) rfl φ.g__law_next (s_acons (s_var 1) (s_acons s_int s_anil))) s_int) (b_cons (t_set (i := 13) hN (s_call F.f28 (room1 hr) (takes_of rfl rfl rfl rfl) rfl φ.g__law_row (s_acons (s_var 1) (s_acons (s_var 2) (s_acons s_int s_anil)))))
    b_nil) b_nil)
    (b_cons (t_if (PW.pt (w_or (t_cmp (c_ne u64) (s_len rfl φ.b_len (s_call F.f20 (room1 hr) (takes_of rfl rfl rfl rfl) rfl φ.g_parts (s_acons (s_var 4) (s_acons (s_var 12) s_anil)))) s_int) (w_or1 (t_cmp (c_ne u64) (s_len rfl φ.b_len (s_call F.f20 (room1 hr) (takes_of rfl rfl rfl rfl) rfl φ.g_parts (s_acons (s_var 4) (s_acons (s_var 13) s_anil)))) s_int)))) (b_cons (t_ret s_bl)
    b_nil) b_nil)
    (b_cons (t_set (i := 14) hN (s_cmp (c_eq u64) (s_lc [("_law_x", 15)] rfl hN (i_seq (s_var 12)) (fun _ _ _ _ _ => (g_name 15 hN)) (fun _ _ _ _ _ => (c_one (t_cmp (c_ne u64) (s_lc [("_law_y", 16)] rfl hN (i_seq (s_var 13)) (fun _ _ _ _ _ => (g_name 16 hN)) (fun _ _ _ _ _ => (c_one (t_not (t_vl (s_call F.f29 (room1 hr) takes_F rfl φ.g__law_may (s_acons (s_var 3) (s_acons (s_var 15) (s_acons (s_var 16) s_anil)))))))) (fun _ _ _ _ _ => (s_var 16))) (s_lst s_anil)))) (fun _ _ _ _ _ => (s_var 15))) (s_lst s_anil)))
    (b_cons (t_ret (s_cmp (c_eq u64) (s_call F.f24 (room1 hr) (takes_of rfl rfl rfl rfl) rfl φ.g_either_way (s_acons (s_var 4) (s_acons (s_var 12) (s_acons (s_var 13) s_anil)))) (s_or (s_var 14) (s_one (s_cmp (c_eq u64) (s_sub u65 (s_call F.f23 (room1 hr) (takes_of rfl rfl rfl rfl) rfl φ.g_root (s_acons (s_var 4) (s_acons (s_var 12) s_anil))) s_int) (s_sub u65 (s_call F.f23 (room1 hr) (takes_of rfl rfl rfl rfl) rfl φ.g_root (s_acons (s_var 4) (s_acons (s_var 13) s_anil))) s_int))))))
    b_nil)))))))))))))))))
end
end Law

set_option Elab.async false
set_option linter.all false
set_option autoImplicit false
set_option maxRecDepth 100000
set_option maxHeartbeats 0
namespace Law
open PySem L2 Itp
theorem fx {K : PySem.W.Frag} {h : Heap} {mg : Str → Option Value} (kin : K.In h) (ns : h.Ns mainGlobals mg) (c : SaysE fa fn ex K) : Fx K mg := by
  have hx : (propB K (He.ga K "Trade") "letters" && (propB K (He.ga K "Trade") "pairs" && (clsB K (He.ga K "Trade") && (eqB K (He.ga K "Trade") && true)))) = true := c.fst.1
  obtain ⟨X0, hx⟩ := He.ba hx
  obtain ⟨X1, hx⟩ := He.ba hx
  obtain ⟨X2, hx⟩ := He.ba hx
  obtain ⟨X3, hx⟩ := He.ba hx
  exact { b_isinstance := He.free_ok kin ns (c.fact 0 (f := .free "isinstance") rfl)
          b_int := He.free_ok kin ns (c.fact 1 (f := .free "int") rfl)
          b_bool := He.free_ok kin ns (c.fact 2 (f := .free "bool") rfl)
          b_tuple := He.free_ok kin ns (c.fact 3 (f := .free "tuple") rfl)
          b_len := He.free_ok kin ns (c.fact 4 (f := .free "len") rfl)
          b_enumerate := He.free_ok kin ns (c.fact 5 (f := .free "enumerate") rfl)
          b_min := He.free_ok kin ns (c.fact 6 (f := .free "min") rfl)
          b_max := He.free_ok kin ns (c.fact 7 (f := .free "max") rfl)
          b_range := He.free_ok kin ns (c.fact 8 (f := .free "range") rfl)
          b_sorted := He.free_ok kin ns (c.fact 9 (f := .free "sorted") rfl)
          b_set := He.free_ok kin ns (c.fact 10 (f := .free "set") rfl)
          b_reversed := He.free_ok kin ns (c.fact 11 (f := .free "reversed") rfl)
          b_list := He.free_ok kin ns (c.fact 12 (f := .free "list") rfl)
          g_is_integer := He.glo_ok kin ns (c.fact 13 (f := .glo "is_integer") rfl)
          g_is_from := He.glo_ok kin ns (c.fact 14 (f := .glo "is_from") rfl)
          g_BadLetters := He.glo_ok kin ns (c.fact 15 (f := .glo "BadLetters") rfl)
          g_is_pair := He.glo_ok kin ns (c.fact 16 (f := .glo "is_pair") rfl)
          g_Trade := He.glo_ok kin ns (c.fact 17 (f := .glo "Trade") rfl)
          g_BadTrade := He.glo_ok kin ns (c.fact 18 (f := .glo "BadTrade") rfl)
          g_check_trade := He.glo_ok kin ns (c.fact 19 (f := .glo "check_trade") rfl)
          g_is_row := He.glo_ok kin ns (c.fact 20 (f := .glo "is_row") rfl)
          g_BadRow := He.glo_ok kin ns (c.fact 21 (f := .glo "BadRow") rfl)
          g_check_row := He.glo_ok kin ns (c.fact 22 (f := .glo "check_row") rfl)
          g_may := He.glo_ok kin ns (c.fact 23 (f := .glo "may") rfl)
          g_only := He.glo_ok kin ns (c.fact 24 (f := .glo "only") rfl)
          g_first_unlike := He.glo_ok kin ns (c.fact 25 (f := .glo "first_unlike") rfl)
          g_first_places := He.glo_ok kin ns (c.fact 26 (f := .glo "first_places") rfl)
          g_without := He.glo_ok kin ns (c.fact 27 (f := .glo "without") rfl)
          g_least_of := He.glo_ok kin ns (c.fact 28 (f := .glo "least_of") rfl)
          g_groups_of := He.glo_ok kin ns (c.fact 29 (f := .glo "groups_of") rfl)
          g_BadNumber := He.glo_ok kin ns (c.fact 30 (f := .glo "BadNumber") rfl)
          g_TooLong := He.glo_ok kin ns (c.fact 31 (f := .glo "TooLong") rfl)
          g_first_part := He.glo_ok kin ns (c.fact 32 (f := .glo "first_part") rfl)
          g_bar_of := He.glo_ok kin ns (c.fact 33 (f := .glo "bar_of") rfl)
          g_check_rows := He.glo_ok kin ns (c.fact 34 (f := .glo "check_rows") rfl)
          g__law_next := He.glo_ok kin ns (c.fact 35 (f := .glo "_law_next") rfl)
          g__law_may := He.glo_ok kin ns (c.fact 36 (f := .glo "_law_may") rfl)
          g__law_class := He.glo_ok kin ns (c.fact 37 (f := .glo "_law_class") rfl)
          g_power := He.glo_ok kin ns (c.fact 38 (f := .glo "power") rfl)
          g_BadPairs := He.glo_ok kin ns (c.fact 39 (f := .glo "BadPairs") rfl)
          g__law_mix := He.glo_ok kin ns (c.fact 40 (f := .glo "_law_mix") rfl)
          g__law_pairs := He.glo_ok kin ns (c.fact 41 (f := .glo "_law_pairs") rfl)
          g__law_row := He.glo_ok kin ns (c.fact 42 (f := .glo "_law_row") rfl)
          g__law_shaken := He.glo_ok kin ns (c.fact 43 (f := .glo "_law_shaken") rfl)
          g_root := He.glo_ok kin ns (c.fact 44 (f := .glo "root") rfl)
          g__law_root := He.glo_ok kin ns (c.fact 45 (f := .glo "_law_root") rfl)
          g_least := He.glo_ok kin ns (c.fact 46 (f := .glo "least") rfl)
          g__law_power := He.glo_ok kin ns (c.fact 47 (f := .glo "_law_power") rfl)
          g_parts := He.glo_ok kin ns (c.fact 48 (f := .glo "parts") rfl)
          g_either_way := He.glo_ok kin ns (c.fact 49 (f := .glo "either_way") rfl)
          g_law := He.glo_ok kin ns (c.fact 50 (f := .glo "law") rfl)
          i_MOST_LETTERS := He.int_ok kin ns (c.fact 51 (f := .int "MOST_LETTERS" 6) rfl)
          i_MOST_ROW := He.int_ok kin ns (c.fact 52 (f := .int "MOST_ROW" 20) rfl)
          i_MOST_TIMES := He.int_ok kin ns (c.fact 53 (f := .int "MOST_TIMES" 20) rfl)
          x_BadLetters := excF_ok (c.fact 54 (f := .exc "BadLetters") rfl)
          x_BadTrade := excF_ok (c.fact 55 (f := .exc "BadTrade") rfl)
          x_BadRow := excF_ok (c.fact 56 (f := .exc "BadRow") rfl)
          x_BadNumber := excF_ok (c.fact 57 (f := .exc "BadNumber") rfl)
          x_TooLong := excF_ok (c.fact 58 (f := .exc "TooLong") rfl)
          m_TooLong_TooLong := He.exm_ok (c.fact 59 (f := .exm "TooLong" "TooLong" true) rfl)
          m_BadNumber_TooLong := He.exm_ok (c.fact 60 (f := .exm "BadNumber" "TooLong" false) rfl)
          m_BadRow_TooLong := He.exm_ok (c.fact 61 (f := .exm "BadRow" "TooLong" false) rfl)
          m_BadTrade_TooLong := He.exm_ok (c.fact 62 (f := .exm "BadTrade" "TooLong" false) rfl)
          m_BadPairs_TooLong := He.exm_ok (c.fact 63 (f := .exm "BadPairs" "TooLong" false) rfl)
          m_BadLetters_TooLong := He.exm_ok (c.fact 64 (f := .exm "BadLetters" "TooLong" false) rfl)
          c_Trade := He.cls_ok (c.fact 65 (f := .cls "Trade") rfl)
          m_Trade := He.mkr_ok (c.fact 66 (f := .mkr "Trade") rfl)
          n_Trade_held := He.noat_ok (c.fact 67 (f := .noat "Trade" "held") rfl)
          p_Trade_letters := prop_ok X0
          p_Trade_pairs := prop_ok X1
          k_Trade := cls_okF (He.cls_ok (c.fact 65 (f := .cls "Trade") rfl)) X2
          e_Trade := eq_ok X3 }
theorem good {P : Program} {w : World} {K : PySem.W.Frag} {mg : Str → Option Value} {base : Heap} {fu : Nat} (φ : Fx K mg) (c : SaysE fa fn ex K) : ∀ n, Fs P w K mg base (runFn G fu n) (2 * n + 2) := by
  obtain ⟨fd0, D0⟩ := c.def_ 0 (d := ⟨fun K => (He.ga K "is_integer"), "is_integer", "is_integer", (top 11)⟩) rfl
  obtain ⟨fd1, D1⟩ := c.def_ 1 (d := ⟨fun K => (He.ga K "is_from"), "is_from", "is_from", (top 12)⟩) rfl
  obtain ⟨fd2, D2⟩ := c.def_ 2 (d := ⟨fun K => (He.ga K "is_pair"), "is_pair", "is_pair", (top 13)⟩) rfl
  obtain ⟨fd3, D3⟩ := c.def_ 3 (d := ⟨fun K => (He.ma K (He.ga K "Trade") "__init__"), "__init__", "Trade.__init__", (mth (top 14) 0)⟩) rfl
  obtain ⟨fd4, D4⟩ := c.def_ 4 (d := ⟨fun K => (gAd K (He.ga K "Trade") "letters"), "letters", "Trade.letters", (mth (top 14) 1)⟩) rfl
  obtain ⟨fd5, D5⟩ := c.def_ 5 (d := ⟨fun K => (gAd K (He.ga K "Trade") "pairs"), "pairs", "Trade.pairs", (mth (top 14) 2)⟩) rfl
  obtain ⟨fd6, D6⟩ := c.def_ 6 (d := ⟨fun K => (He.ma K (He.ga K "Trade") "__eq__"), "__eq__", "Trade.__eq__", (mth (top 14) 3)⟩) rfl
  obtain ⟨fd7, D7⟩ := c.def_ 7 (d := ⟨fun K => (He.ga K "check_trade"), "check_trade", "check_trade", (top 15)⟩) rfl
  obtain ⟨fd8, D8⟩ := c.def_ 8 (d := ⟨fun K => (He.ga K "may"), "may", "may", (top 16)⟩) rfl
  obtain ⟨fd9, D9⟩ := c.def_ 9 (d := ⟨fun K => (He.ga K "is_row"), "is_row", "is_row", (top 17)⟩) rfl
  obtain ⟨fd10, D10⟩ := c.def_ 10 (d := ⟨fun K => (He.ga K "check_row"), "check_row", "check_row", (top 18)⟩) rfl
  obtain ⟨fd11, D11⟩ := c.def_ 11 (d := ⟨fun K => (He.ga K "check_rows"), "check_rows", "check_rows", (top 19)⟩) rfl
  obtain ⟨fd12, D12⟩ := c.def_ 12 (d := ⟨fun K => (He.ga K "only"), "only", "only", (top 21)⟩) rfl
  obtain ⟨fd13, D13⟩ := c.def_ 13 (d := ⟨fun K => (He.ga K "first_unlike"), "first_unlike", "first_unlike", (top 22)⟩) rfl
  obtain ⟨fd14, D14⟩ := c.def_ 14 (d := ⟨fun K => (He.ga K "bar_of"), "bar_of", "bar_of", (top 23)⟩) rfl
  obtain ⟨fd15, D15⟩ := c.def_ 15 (d := ⟨fun K => (He.ga K "first_places"), "first_places", "first_places", (top 24)⟩) rfl
  obtain ⟨fd16, D16⟩ := c.def_ 16 (d := ⟨fun K => (He.ga K "without"), "without", "without", (top 25)⟩) rfl
  obtain ⟨fd17, D17⟩ := c.def_ 17 (d := ⟨fun K => (He.ga K "least_of"), "least_of", "least_of", (top 26)⟩) rfl
  obtain ⟨fd18, D18⟩ := c.def_ 18 (d := ⟨fun K => (He.ga K "least"), "least", "least", (top 27)⟩) rfl
  obtain ⟨fd19, D19⟩ := c.def_ 19 (d := ⟨fun K => (He.ga K "groups_of"), "groups_of", "groups_of", (top 30)⟩) rfl
  obtain ⟨fd20, D20⟩ := c.def_ 20 (d := ⟨fun K => (He.ga K "parts"), "parts", "parts", (top 31)⟩) rfl
  obtain ⟨fd21, D21⟩ := c.def_ 21 (d := ⟨fun K => (He.ga K "power"), "power", "power", (top 32)⟩) rfl
  obtain ⟨fd22, D22⟩ := c.def_ 22 (d := ⟨fun K => (He.ga K "first_part"), "first_part", "first_part", (top 33)⟩) rfl
  obtain ⟨fd23, D23⟩ := c.def_ 23 (d := ⟨fun K => (He.ga K "root"), "root", "root", (top 34)⟩) rfl
  obtain ⟨fd24, D24⟩ := c.def_ 24 (d := ⟨fun K => (He.ga K "either_way"), "either_way", "either_way", (top 36)⟩) rfl
  obtain ⟨fd25, D25⟩ := c.def_ 25 (d := ⟨fun K => (He.ga K "_law_mix"), "_law_mix", "_law_mix", (top 38)⟩) rfl
  obtain ⟨fd26, D26⟩ := c.def_ 26 (d := ⟨fun K => (He.ga K "_law_next"), "_law_next", "_law_next", (top 39)⟩) rfl
  obtain ⟨fd27, D27⟩ := c.def_ 27 (d := ⟨fun K => (He.ga K "_law_pairs"), "_law_pairs", "_law_pairs", (top 40)⟩) rfl
  obtain ⟨fd28, D28⟩ := c.def_ 28 (d := ⟨fun K => (He.ga K "_law_row"), "_law_row", "_law_row", (top 41)⟩) rfl
  obtain ⟨fd29, D29⟩ := c.def_ 29 (d := ⟨fun K => (He.ga K "_law_may"), "_law_may", "_law_may", (top 42)⟩) rfl
  obtain ⟨fd30, D30⟩ := c.def_ 30 (d := ⟨fun K => (He.ga K "_law_shaken"), "_law_shaken", "_law_shaken", (top 43)⟩) rfl
  obtain ⟨fd31, D31⟩ := c.def_ 31 (d := ⟨fun K => (He.ga K "_law_class"), "_law_class", "_law_class", (top 44)⟩) rfl
  obtain ⟨fd32, D32⟩ := c.def_ 32 (d := ⟨fun K => (He.ga K "_law_root"), "_law_root", "_law_root", (top 45)⟩) rfl
  obtain ⟨fd33, D33⟩ := c.def_ 33 (d := ⟨fun K => (He.ga K "_law_power"), "_law_power", "_law_power", (top 46)⟩) rfl
  obtain ⟨fd34, D34⟩ := c.def_ 34 (d := ⟨fun K => (He.ga K "law"), "law", "law", (top 47)⟩) rfl
  have B0 : Binds K fd0 ["value"] [] := FunD.bindsN D0 fun _ _ _ _ _ _ us hl => match us, hl with | [_], _ => rfl
  have B1 : Binds K fd1 ["value", "low", "high"] [] := FunD.bindsN D1 fun _ _ _ _ _ _ us hl => match us, hl with | [_, _, _], _ => rfl
  have B2 : Binds K fd2 ["value", "letters"] [] := FunD.bindsN D2 fun _ _ _ _ _ _ us hl => match us, hl with | [_, _], _ => rfl
  have B3 : Binds K fd3 ["self", "letters", "pairs"] [] := FunD.bindsN D3 fun _ _ _ _ _ _ us hl => match us, hl with | [_, _, _], _ => rfl
  have B4 : Binds K fd4 ["self"] [] := FunD.bindsN D4 fun _ _ _ _ _ _ us hl => match us, hl with | [_], _ => rfl
  have B5 : Binds K fd5 ["self"] [] := FunD.bindsN D5 fun _ _ _ _ _ _ us hl => match us, hl with | [_], _ => rfl
  have B6 : Binds K fd6 ["self", "other"] [] := FunD.bindsN D6 fun _ _ _ _ _ _ us hl => match us, hl with | [_, _], _ => rfl
  have B7 : Binds K fd7 ["value"] [] := FunD.bindsN D7 fun _ _ _ _ _ _ us hl => match us, hl with | [_], _ => rfl
  have B8 : Binds K fd8 ["trade", "one", "other"] [] := FunD.bindsN D8 fun _ _ _ _ _ _ us hl => match us, hl with | [_, _, _], _ => rfl
  have B9 : Binds K fd9 ["value", "letters"] [] := FunD.bindsN D9 fun _ _ _ _ _ _ us hl => match us, hl with | [_, _], _ => rfl
  have B10 : Binds K fd10 ["trade", "row"] [] := FunD.bindsN D10 fun _ _ _ _ _ _ us hl => match us, hl with | [_, _], _ => rfl
  have B11 : Binds K fd11 ["trade", "one", "other"] [] := FunD.bindsN D11 fun _ _ _ _ _ _ us hl => match us, hl with | [_, _, _], _ => rfl
  have B12 : Binds K fd12 ["row", "letters"] [] := FunD.bindsN D12 fun _ _ _ _ _ _ us hl => match us, hl with | [_, _], _ => rfl
  have B13 : Binds K fd13 ["one", "other"] [] := FunD.bindsN D13 fun _ _ _ _ _ _ us hl => match us, hl with | [_, _], _ => rfl
  have B14 : Binds K fd14 ["trade", "one", "other"] [] := FunD.bindsN D14 fun _ _ _ _ _ _ us hl => match us, hl with | [_, _, _], _ => rfl
  have B15 : Binds K fd15 ["trade", "row"] [] := FunD.bindsN D15 fun _ _ _ _ _ _ us hl => match us, hl with | [_, _], _ => rfl
  have B16 : Binds K fd16 ["row", "places"] [] := FunD.bindsN D16 fun _ _ _ _ _ _ us hl => match us, hl with | [_, _], _ => rfl
  have B17 : Binds K fd17 ["trade", "row"] [] := FunD.bindsN D17 fun _ _ _ _ _ _ us hl => match us, hl with | [_, _], _ => rfl
  have B18 : Binds K fd18 ["trade", "row"] [] := FunD.bindsN D18 fun _ _ _ _ _ _ us hl => match us, hl with | [_, _], _ => rfl
  have B19 : Binds K fd19 ["trade", "row"] [] := FunD.bindsN D19 fun _ _ _ _ _ _ us hl => match us, hl with | [_, _], _ => rfl
  have B20 : Binds K fd20 ["trade", "row"] [] := FunD.bindsN D20 fun _ _ _ _ _ _ us hl => match us, hl with | [_, _], _ => rfl
  have B21 : Binds K fd21 ["trade", "row", "many"] [] := FunD.bindsN D21 fun _ _ _ _ _ _ us hl => match us, hl with | [_, _, _], _ => rfl
  have B22 : Binds K fd22 ["row", "many"] [] := FunD.bindsN D22 fun _ _ _ _ _ _ us hl => match us, hl with | [_, _], _ => rfl
  have B23 : Binds K fd23 ["trade", "row"] [] := FunD.bindsN D23 fun _ _ _ _ _ _ us hl => match us, hl with | [_, _], _ => rfl
  have B24 : Binds K fd24 ["trade", "one", "other"] [] := FunD.bindsN D24 fun _ _ _ _ _ _ us hl => match us, hl with | [_, _, _], _ => rfl
  have B25 : Binds K fd25 ["_law_script", "_law_seed"] [] := FunD.bindsN D25 fun _ _ _ _ _ _ us hl => match us, hl with | [_, _], _ => rfl
  have B26 : Binds K fd26 ["_law_h", "_law_bound"] [] := FunD.bindsN D26 fun _ _ _ _ _ _ us hl => match us, hl with | [_, _], _ => rfl
  have B27 : Binds K fd27 ["_law_h", "_law_letters"] [] := FunD.bindsN D27 fun _ _ _ _ _ _ us hl => match us, hl with | [_, _], _ => rfl
  have B28 : Binds K fd28 ["_law_h", "_law_letters", "_law_most"] [] := FunD.bindsN D28 fun _ _ _ _ _ _ us hl => match us, hl with | [_, _, _], _ => rfl
  have B29 : Binds K fd29 ["_law_pairs_here", "_law_a", "_law_b"] [] := FunD.bindsN D29 fun _ _ _ _ _ _ us hl => match us, hl with | [_, _, _], _ => rfl
  have B30 : Binds K fd30 ["_law_h", "_law_pairs_here", "_law_row_here", "_law_turns"] [] := FunD.bindsN D30 fun _ _ _ _ _ _ us hl => match us, hl with | [_, _, _, _], _ => rfl
  have B31 : Binds K fd31 ["_law_pairs_here", "_law_row_here"] [] := FunD.bindsN D31 fun _ _ _ _ _ _ us hl => match us, hl with | [_, _], _ => rfl
  have B32 : Binds K fd32 ["_law_pairs_here", "_law_row_here"] [] := FunD.bindsN D32 fun _ _ _ _ _ _ us hl => match us, hl with | [_, _], _ => rfl
  have B33 : Binds K fd33 ["_law_told", "_law_row_here", "_law_often"] [] := FunD.bindsN D33 fun _ _ _ _ _ _ us hl => match us, hl with | [_, _, _], _ => rfl
  have B34 : Binds K fd34 ["_law_script"] [] := FunD.bindsN D34 fun _ _ _ _ _ _ us hl => match us, hl with | [_], _ => rfl
  intro n
  induction n with
  | zero => exact ⟨fnE_zero D0 B0, fnE_zero D1 B1, fnE_zero D2 B2, fnE_zero D3 B3, fnE_zero D4 B4, fnE_zero D5 B5, fnE_zero D6 B6, fnE_zero D7 B7, fnE_zero D8 B8, fnE_zero D9 B9, fnE_zero D10 B10, fnE_zero D11 B11, fnE_zero D12 B12, fnE_zero D13 B13, fnE_zero D14 B14, fnE_zero D15 B15, fnE_zero D16 B16, fnE_zero D17 B17, fnE_zero D18 B18, fnE_zero D19 B19, fnE_zero D20 B20, fnE_zero D21 B21, fnE_zero D22 B22, fnE_zero D23 B23, fnE_zero D24 B24, fnE_zero D25 B25, fnE_zero D26 B26, fnE_zero D27 B27, fnE_zero D28 B28, fnE_zero D29 B29, fnE_zero D30 B30, fnE_zero D31 B31, fnE_zero D32 B32, fnE_zero D33 B33, fnE_zero D34 B34⟩
  | succ n F => exact ⟨fnE_code (N := N0) rfl D0 sc0 rfl rfl B0 fun _ _ _ _ _ _ hr => d0 φ F hr,
      fnE_code (N := N1) rfl D1 sc1 rfl rfl B1 fun _ _ _ _ _ _ hr => d1 φ F hr,
      fnE_code (N := N2) rfl D2 sc2 rfl rfl B2 fun _ _ _ _ _ _ hr => d2 φ F hr,
      fnE_code (N := N3) rfl D3 sc3 rfl rfl B3 fun _ _ _ _ _ _ hr => d3 φ F hr,
      fnE_code (N := N4) rfl D4 sc4 rfl rfl B4 fun _ _ _ _ _ _ hr => d4 φ F hr,
      fnE_code (N := N5) rfl D5 sc5 rfl rfl B5 fun _ _ _ _ _ _ hr => d5 φ F hr,
      fnE_code (N := N6) rfl D6 sc6 rfl rfl B6 fun _ _ _ _ _ _ hr => d6 φ F hr,
      fnE_code (N := N7) rfl D7 sc7 rfl rfl B7 fun _ _ _ _ _ _ hr => d7 φ F hr,
      fnE_code (N := N8) rfl D8 sc8 rfl rfl B8 fun _ _ _ _ _ _ hr => d8 φ F hr,
      fnE_code (N := N9) rfl D9 sc9 rfl rfl B9 fun _ _ _ _ _ _ hr => d9 φ F hr,
      fnE_code (N := N10) rfl D10 sc10 rfl rfl B10 fun _ _ _ _ _ _ hr => d10 φ F hr,
      fnE_code (N := N11) rfl D11 sc11 rfl rfl B11 fun _ _ _ _ _ _ hr => d11 φ F hr,
      fnE_code (N := N12) rfl D12 sc12 rfl rfl B12 fun _ _ _ _ _ _ hr => d12 φ F hr,
      fnE_code (N := N13) rfl D13 sc13 rfl rfl B13 fun _ _ _ _ _ _ hr => d13 φ F hr,
      fnE_code (N := N14) rfl D14 sc14 rfl rfl B14 fun _ _ _ _ _ _ hr => d14 φ F hr,
      fnE_code (N := N15) rfl D15 sc15 rfl rfl B15 fun _ _ _ _ _ _ hr => d15 φ F hr,
      fnE_code (N := N16) rfl D16 sc16 rfl rfl B16 fun _ _ _ _ _ _ hr => d16 φ F hr,
      fnE_code (N := N17) rfl D17 sc17 rfl rfl B17 fun _ _ _ _ _ _ hr => d17 φ F hr,
      fnE_code (N := N18) rfl D18 sc18 rfl rfl B18 fun _ _ _ _ _ _ hr => d18 φ F hr,
      fnE_code (N := N19) rfl D19 sc19 rfl rfl B19 fun _ _ _ _ _ _ hr => d19 φ F hr,
      fnE_code (N := N20) rfl D20 sc20 rfl rfl B20 fun _ _ _ _ _ _ hr => d20 φ F hr,
      fnE_code (N := N21) rfl D21 sc21 rfl rfl B21 fun _ _ _ _ _ _ hr => d21 φ F hr,
      fnE_code (N := N22) rfl D22 sc22 rfl rfl B22 fun _ _ _ _ _ _ hr => d22 φ F hr,
      fnE_code (N := N23) rfl D23 sc23 rfl rfl B23 fun _ _ _ _ _ _ hr => d23 φ F hr,
      fnE_code (N := N24) rfl D24 sc24 rfl rfl B24 fun _ _ _ _ _ _ hr => d24 φ F hr,
      fnE_read (N := N25) rfl D25 sc25 rfl B25 (fun vs H Q E h => pure_mix rfl rfl vs H Q E h) fun _ _ _ _ _ _ hr => d25 φ F hr,
      fnE_read (N := N26) rfl D26 sc26 rfl B26 (fun vs H Q E h => pure_next rfl rfl vs H Q E h) fun _ _ _ _ _ _ hr => d26 φ F hr,
      fnE_code (N := N27) rfl D27 sc27 rfl rfl B27 fun _ _ _ _ _ _ hr => d27 φ F hr,
      fnE_code (N := N28) rfl D28 sc28 rfl rfl B28 fun _ _ _ _ _ _ hr => d28 φ F hr,
      fnE_code (N := N29) rfl D29 sc29 rfl rfl B29 fun _ _ _ _ _ _ hr => d29 φ F hr,
      fnE_code (N := N30) rfl D30 sc30 rfl rfl B30 fun _ _ _ _ _ _ hr => d30 φ F hr,
      fnE_code (N := N31) rfl D31 sc31 rfl rfl B31 fun _ _ _ _ _ _ hr => d31 φ F hr,
      fnE_code (N := N32) rfl D32 sc32 rfl rfl B32 fun _ _ _ _ _ _ hr => d32 φ F hr,
      fnE_code (N := N33) rfl D33 sc33 rfl rfl B33 fun _ _ _ _ _ _ hr => d33 φ F hr,
      fnE_code (N := N34) rfl D34 sc34 rfl rfl B34 fun _ _ _ _ _ _ hr => d34 φ F hr⟩
abbrev R : PySem.W.OpenRow := PySem.W.OpenLaw.row PySem.Challenge.rw_placetrade_k17_whole_roots_and_powers
abbrev hk : PySem.W.Hook := hookE 6 fa fn ex
def ob (s : PySem.W.SharedT) : AlE := obsE 6 fa fn ex (HandSHeadRun.getT s)
theorem ob_eq (s : PySem.W.SharedT) : ob s = hk.obs s.abs := obsE_eq (HandSHeadRun.getT_eq s)
def loose0 : List Str := ["__name__", "TradeError", "BadLetters", "BadPairs", "BadTrade", "BadRow", "BadNumber", "TooLong", "MOST_LETTERS", "MOST_ROW", "is_integer", "is_from", "is_pair", "Trade", "check_trade", "may", "is_row", "check_row", "check_rows", "only", "first_unlike", "bar_of", "first_places", "without", "least_of", "least", "MOST_TIMES", "groups_of", "parts", "power"]
def loose1 : List Str := ["first_part", "root", "either_way", "_law_mix", "_law_next", "_law_pairs", "_law_row", "_law_may", "_law_shaken", "_law_class", "_law_root", "_law_power"]
abbrev loose : List Str := loose0 ++ loose1
theorem run (w : World) : HandSHeadRun.RunEq R (PySem.W.view R.prog [47]) hk ob 12000 loose w := by
  intro os
  kernel_rfl
theorem lawOk {P : Program} {w : World} {K : PySem.W.Frag} {mg : Str → Option Value} {base : Heap} {fu : Nat} (φ : Fx K mg) (c : SaysE fa fn ex K) (n : Nat) {fd : FuncData} (D : FunD K "law" "law" (defArgs (top 47)) (defBody (top 47)) (defScope (top 47)) [] [] (He.ga K "law") fd) :
    FnOk P w K mg base (L2.CX P w) (2 * (n + 1) + 2) (He.ga K "law") fd ["_law_script"] (spI P w K (tt K) (runFn G fu (n + 1)) 34) := fnOk_code (N := N34) rfl D sc34 rfl rfl fun _ _ _ _ _ _ hr => d34 φ (good φ c n) hr
end Law
set_option Elab.async false
set_option linter.all false
set_option maxRecDepth 100000
set_option maxHeartbeats 0
open PySem PySem.W PySem.Calls PyProof.Rows
theorem PySem.Challenge.cw_placetrade_k17_whole_roots_and_powers_holds : PySem.Challenge.rw_placetrade_k17_whole_roots_and_powers.Holds := by
  w_on; o_law
  refine HandSHeadRun.head_any (r := OpenLaw.row PySem.Challenge.rw_placetrade_k17_whole_roots_and_powers) (q := view (OpenLaw.row PySem.Challenge.rw_placetrade_k17_whole_roots_and_powers).prog [47]) (H := Law.hk) (ob := Law.ob) (M := 12000) (loose := Law.loose) (d := HandSHeadRun.topDef (OpenLaw.row PySem.Challenge.rw_placetrade_k17_whole_roots_and_powers).prog 47) (kwd := []) Law.ob_eq
    (by kernel_rfl) (fun s => by kernel_rfl) Law.run (by kernel_rfl) (by kernel_rfl) (by kernel_rfl) (by rfl) (by first | assumption | decide +kernel) (by decide +kernel) ⟨rfl, rfl, rfl, rfl, rfl, by decide +kernel⟩ ?hw ?hc
  case hw => w_witness2
  case hc =>
    refine Itp.walk_ofI (l := PySem.Challenge.rw_placetrade_k17_whole_roots_and_powers) (n := 63) (k := 2 * (30 + 1) + 2) (x := "_law_script") rfl (by decide) (by kernel_rfl) ⟨rfl, by decide, by decide⟩ ?F
    intro w mg fa h Y G hmg0
    obtain ⟨K, KX, c⟩ := Y
    have hmg : mg ("law" : PySem.Str) = some (.ref fa) := by
      have e : (HandSHeadRun.topDef (OpenLaw.row PySem.Challenge.rw_placetrade_k17_whole_roots_and_powers).prog 47).name = ("law" : PySem.Str) := by kernel_rfl
      rw [← e]
      exact hmg0
    obtain ⟨fd, D⟩ := c.def_ 34 (d := ⟨fun K => He.ga K "law", "law", "law", Law.top 47⟩) rfl
    have e := hmg.symm.trans (Law.fx KX G c).g_law
    cases e
    have b := L2.FunD.bindsA (ps := ["_law_script"]) D fun _ _ _ _ _ _ us hl => match us, hl with | [_], _ => rfl
    exact ⟨K, fd, Itp.spI _ w K (Law.tt K) (Itp.runFn Law.G 1000 (30 + 1)) 34, KX, fun s v => b s [v] rfl, fun H a ns hl hO hS => Itp.law_sp hO hS (Law.plain ns hl), fun base kin ns => Law.lawOk (Law.fx kin ns c) c 30 D⟩

