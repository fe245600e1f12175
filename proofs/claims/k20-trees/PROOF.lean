import PyProof.Rows.All
import Wide.All
import OpenK.AllK
import Wide.FinOn
import PyProof.EqLayable
import KE.SortData
import HandS.ForMost
import HandS.ForExc
import HandS.Deep
import HandS.TupAny
import HandS.Style
import HandS.Conv
import HandS.TupSets
import HandS.Strs
import HandS.DictTup
import HandS.ExcIs
import HandS.IsInst
import HandS.SetFor
import PySem.Challenge.RW_markslide_k20_whole_trees
set_option Elab.async false
set_option linter.all false
set_option maxRecDepth 100000
set_option maxHeartbeats 4000000
/-! MsSem: what the constructs compute, over plain data (PyData), no heap in sight. -/
namespace MS
open PySem

/-- the kinds of own errors -/
inductive XK where
  | web | marks | slide | unlike | tree | text
  deriving DecidableEq, Repr
/-- a slot: unset, frozen data, an owned list, an owned dict (tuples of ints as keys), an error, the script -/
inductive Sl where
  | nil
  | fz (d : PyData)
  | ow (ds : List PyData)
  | dc (kvs : List (List Int × PyData))
  | ex (k : XK)
  | sc (ns : List Int)
/-- is it a thing of one's own -/
def Sl.own : Sl → Bool
  | .ow _ => true
  | .dc _ => true
  | _ => false
inductive Rs (α : Type) where
  | ok (a : α)
  | er (k : XK)
  | no
def Rs.bind {α β : Type} : Rs α → (α → Rs β) → Rs β
  | .ok a, f => f a
  | .er k, _ => .er k
  | .no, _ => .no
@[simp] theorem Rs.bind_ok {α β : Type} (a : α) (f : α → Rs β) : (Rs.ok a).bind f = f a := rfl
@[simp] theorem Rs.bind_er {α β : Type} (k : XK) (f : α → Rs β) : (Rs.er k : Rs α).bind f = .er k := rfl
@[simp] theorem Rs.bind_no {α β : Type} (f : α → Rs β) : (Rs.no : Rs α).bind f = .no := rfl
abbrev Env := List Sl
abbrev DE := Env → Rs PyData
abbrev DT := Env → Rs Bool
abbrev DB := Env → Rs Sl
abbrev DL := Env → Rs (List PyData)
abbrev DA := Env → Rs (List Sl)
abbrev DF := List Sl → Rs PyData
/-- most items that a list may have here -/
abbrev lim : Nat := 1000000

/-! ### names, constants -/
def dVar (i : Nat) : DE := fun ρ => match ρ[i]? with
  | some (.fz d) => .ok d
  | _ => .no
def bVar (i : Nat) : DB := fun ρ => match ρ[i]? with
  | some .nil => .no
  | some s => .ok s
  | none => .no
def bOf (e : DE) : DB := fun ρ => (e ρ).bind fun d => .ok (.fz d)
def dC (d : PyData) : DE := fun _ => .ok d

/-! ### operators -/
def dBin (op : PyData → PyData → Rs PyData) (a b : DE) : DE := fun ρ => (a ρ).bind fun x => (b ρ).bind fun y => op x y
def opAdd : PyData → PyData → Rs PyData
  | .int i, .int j => .ok (.int (i + j))
  | .tuple xs, .tuple ys => if xs.length + ys.length ≤ lim then .ok (.tuple (xs ++ ys)) else .no
  | .list xs, .list ys => if xs.length + ys.length ≤ lim then .ok (.list (xs ++ ys)) else .no
  | .str x, .str y => if x.length + y.length ≤ lim then .ok (.str (x ++ y)) else .no
  | _, _ => .no
def opSub : PyData → PyData → Rs PyData
  | .int i, .int j => .ok (.int (i - j))
  | _, _ => .no
def opMul : PyData → PyData → Rs PyData
  | .int i, .int j => if (-(2 ^ 64) < i ∧ i < 2 ^ 64) ∨ (-(2 ^ 64) < j ∧ j < 2 ^ 64) then .ok (.int (i * j)) else .no
  | .list xs, .int k => if 0 ≤ k ∧ k < 2 ^ 62 ∧ xs.length * k.toNat ≤ lim then .ok (.list (List.replicate k.toNat xs).flatten) else .no
  | _, _ => .no
def opMod : PyData → PyData → Rs PyData
  | .int i, .int j => if 0 < j then .ok (.int (i % j)) else .no
  | _, _ => .no
def opDiv : PyData → PyData → Rs PyData
  | .int i, .int j => if 0 < j ∧ j < 1073741824 then .ok (.int (i / j)) else .no
  | _, _ => .no

/-! ### comparisons -/
def cEq : PyData → PyData → Rs Bool := fun x y => if SeqAt.shaped x = true ∧ SeqAt.shaped y = true then .ok (PyData.eqv x y) else .no
def cNe : PyData → PyData → Rs Bool := fun x y => if SeqAt.shaped x = true ∧ SeqAt.shaped y = true then .ok (!PyData.eqv x y) else .no
/-- the ints of a list of ints -/
def intsOf : List PyData → Option (List Int)
  | [] => some []
  | .int i :: r => (intsOf r).map (i :: ·)
  | _ :: _ => none
def lexLt : List Int → List Int → Bool
  | [], [] => false
  | [], _ :: _ => true
  | _ :: _, [] => false
  | x :: xs, y :: ys => if x = y then lexLt xs ys else decide (x < y)
def cLt : PyData → PyData → Rs Bool
  | .int i, .int j => .ok (decide (i < j))
  | .tuple xs, .tuple ys => match intsOf xs, intsOf ys with
    | some ns, some ms => .ok (lexLt ns ms)
    | _, _ => .no
  | _, _ => .no
def cLe : PyData → PyData → Rs Bool
  | .int i, .int j => .ok (decide (i ≤ j))
  | _, _ => .no
def cGt : PyData → PyData → Rs Bool
  | .int i, .int j => .ok (decide (j < i))
  | _, _ => .no
def cGe : PyData → PyData → Rs Bool
  | .int i, .int j => .ok (decide (j ≤ i))
  | _, _ => .no
def tCmp (c : PyData → PyData → Rs Bool) (a b : DE) : DT := fun ρ => (a ρ).bind fun x => (b ρ).bind fun y => c x y
/-- a op b op' c -/
def tCh (c1 c2 : PyData → PyData → Rs Bool) (a b c : DE) : DT := fun ρ => (a ρ).bind fun x => (b ρ).bind fun y => (c1 x y).bind fun k => if k = true then (c ρ).bind fun z => c2 y z else .ok false
def tCh3 (c1 c2 c3 : PyData → PyData → Rs Bool) (a b c d : DE) : DT := fun ρ => (a ρ).bind fun x => (b ρ).bind fun y => (c1 x y).bind fun k => if k = true then (c ρ).bind fun z => (c2 y z).bind fun k => if k = true then (d ρ).bind fun u => c3 z u else .ok false else .ok false
def isN : Sl → Rs Bool
  | .fz d => .ok (match d with | .none => true | _ => false)
  | .ex _ => .ok false
  | _ => .no
def tIsN (a : DB) : DT := fun ρ => (a ρ).bind isN
def tNotN (a : DB) : DT := fun ρ => (a ρ).bind fun s => (isN s).bind fun b => .ok (!b)
def flatD : PyData → Bool
  | .none | .bool _ | .int _ | .str _ => true
  | _ => false
def inAny (x : PyData) (ds : List PyData) : Bool := ds.any fun z => PyData.eqv z x
/-- x in s -/
def cIn (x : PyData) : Sl → Rs Bool
  | .fz (.list ds) => if SeqAt.shaped x = true ∧ SeqAt.shaped (.list ds) = true then .ok (inAny x ds) else .no
  | .ow ds => if SeqAt.shaped x = true ∧ SeqAt.shaped (.list ds) = true then .ok (inAny x ds) else .no
  | .fz (.tuple ds) => if flatD x = true ∧ ds.all flatD = true then .ok (inAny x ds) else .no
  | .fz (.str t) => match x with
    | .str s => (match s.cps.toList with
      | [c] => .ok (decide (c ∈ t.cps.toList))
      | _ => .no)
    | _ => .no
  | .dc kvs => match x with
    | .tuple ds => (match intsOf ds with
      | some ns => .ok (kvs.any fun p => decide (p.1 = ns))
      | none => .no)
    | _ => .no
  | _ => .no
def tIn (a : DE) (b : DB) : DT := fun ρ => (a ρ).bind fun x => (b ρ).bind fun s => cIn x s
def tNin (a : DE) (b : DB) : DT := fun ρ => (a ρ).bind fun x => (b ρ).bind fun s => (cIn x s).bind fun k => .ok (!k)

/-! ### tests, truth values -/
def dT (t : DT) : DE := fun ρ => (t ρ).bind fun b => .ok (.bool b)
def tAnd (t u : DT) : DT := fun ρ => (t ρ).bind fun b => if b = true then u ρ else .ok false
def tOr (t u : DT) : DT := fun ρ => (t ρ).bind fun b => if b = true then .ok true else u ρ
def tNot (t : DT) : DT := fun ρ => (t ρ).bind fun b => .ok (!b)
def asB : PyData → Rs Bool
  | .bool b => .ok b
  | _ => .no
def dAnd (a b : DE) : DE := fun ρ => (a ρ).bind fun x => (asB x).bind fun k => if k = true then b ρ else .ok (.bool false)
def dOr (a b : DE) : DE := fun ρ => (a ρ).bind fun x => (asB x).bind fun k => if k = true then .ok (.bool true) else b ρ
def dNot (a : DE) : DE := fun ρ => (a ρ).bind fun x => (asB x).bind fun k => .ok (.bool (!k))
def truS : Sl → Rs Bool
  | .fz .none => .ok false
  | .fz (.bool b) => .ok b
  | .fz (.int i) => .ok (i != 0)
  | .fz (.list ds) => .ok (!ds.isEmpty)
  | .fz (.tuple ds) => .ok (!ds.isEmpty)
  | .ow ds => .ok (!ds.isEmpty)
  | .sc ns => .ok (!ns.isEmpty)
  | _ => .no
def tTru (b : DB) : DT := fun ρ => (b ρ).bind truS
def dIf (t : DT) (a b : DE) : DE := fun ρ => (t ρ).bind fun k => if k = true then a ρ else b ρ

/-! ### displays, subscripts -/
def lNil : DL := fun _ => .ok []
def lCons (a : DE) (r : DL) : DL := fun ρ => (a ρ).bind fun x => (r ρ).bind fun xs => .ok (x :: xs)
def dLst (l : DL) : DE := fun ρ => (l ρ).bind fun ds => .ok (.list ds)
def dTup (l : DL) : DE := fun ρ => (l ρ).bind fun ds => .ok (.tuple ds)
def atD {α : Type} (xs : List α) (i : Int) : Option α := if 0 ≤ i then (if i < xs.length then xs[i.toNat]? else none) else if -(xs.length : Int) ≤ i then xs[(i + xs.length).toNat]? else none
def ofO {α : Type} : Option α → Rs α
  | some a => .ok a
  | none => .no
def ixS : Sl → PyData → Rs PyData
  | .fz (.list ds), .int i => ofO (atD ds i)
  | .fz (.tuple ds), .int i => ofO (atD ds i)
  | .fz (.str s), .int i => if s.length ≤ lim then (ofO (atD s.cps.toList i)).bind fun c => .ok (.str ⟨#[c]⟩) else .no
  | .ow ds, .int i => ofO (atD ds i)
  | .sc ns, .int i => (ofO (atD ns i)).bind fun n => .ok (.int n)
  | _, _ => .no
def dIx (b : DB) (i : DE) : DE := fun ρ => (b ρ).bind fun s => (i ρ).bind fun d => ixS s d
def sIx (n d : Nat) : Option Int → Nat
  | none => d
  | some v => if v < 0 then (v + (n : Int)).toNat else min v.toNat n
def cutD {α : Type} (xs : List α) (lo hi : Option Int) : List α := (xs.drop (sIx xs.length 0 lo)).take (sIx xs.length xs.length hi - sIx xs.length 0 lo)
abbrev DO := Env → Rs (Option Int)
def oN : DO := fun _ => .ok none
def oE (e : DE) : DO := fun ρ => (e ρ).bind fun d => match d with
  | .int i => .ok (some i)
  | _ => .no
def slD (d : PyData) (lo hi : Option Int) : Rs PyData := match d with
  | .list ds => .ok (.list (cutD ds lo hi))
  | .tuple ds => .ok (.tuple (cutD ds lo hi))
  | .str s => if s.length ≤ lim then .ok (.str ⟨(cutD s.cps.toList lo hi).toArray⟩) else .no
  | _ => .no
def dSl (e : DE) (lo hi : DO) : DE := fun ρ => (e ρ).bind fun d => (lo ρ).bind fun l => (hi ρ).bind fun h => slD d l h
def dRev (e : DE) : DE := fun ρ => (e ρ).bind fun d => match d with
  | .list ds => .ok (.list ds.reverse)
  | _ => .no

/-! ### what is walked; targets; comprehensions -/
def itS : Sl → Rs (List PyData)
  | .fz (.list ds) => .ok ds
  | .fz (.tuple ds) => .ok ds
  | .fz (.str s) => if s.length ≤ lim then .ok (s.cps.toList.map fun c => .str ⟨#[c]⟩) else .no
  | .ow ds => .ok ds
  | _ => .no
def iSeq (b : DB) : DL := fun ρ => (b ρ).bind itS
def rngD (lo : Int) (n : Nat) : List PyData := (List.range n).map fun (i : Nat) => PyData.int (lo + (i : Int))
def rng1 : PyData → Rs (List PyData)
  | .int n => if -1000000 ≤ n ∧ n ≤ 1000000 then .ok (rngD 0 n.toNat) else .no
  | _ => .no
def rng2 : PyData → PyData → Rs (List PyData)
  | .int a, .int b => if -1000000 ≤ a ∧ a ≤ 1000000 ∧ -1000000 ≤ b ∧ b ≤ 1000000 then .ok (rngD a (b - a).toNat) else .no
  | _, _ => .no
def iR1 (a : DE) : DL := fun ρ => (a ρ).bind rng1
def iR2 (a b : DE) : DL := fun ρ => (a ρ).bind fun x => (b ρ).bind fun y => rng2 x y
abbrev Tg := PyData → Env → Rs Env
def gN (i : Nat) : Tg := fun d ρ => .ok (ρ.set i (.fz d))
def setAll : List Nat → List PyData → Env → Env
  | i :: is, d :: ds, ρ => setAll is ds (ρ.set i (.fz d))
  | _, _, ρ => ρ
def gT (is : List Nat) : Tg := fun d ρ => match d with
  | .tuple ds => if ds.length = is.length then .ok (setAll is ds ρ) else .no
  | _ => .no
def wipeE (ρ : Env) : List Nat → Env
  | [] => ρ
  | v :: vs => (wipeE ρ vs).set v .nil
def tYes : DT := fun _ => .ok true
def compGo (g : Tg) (t : DT) (e : DE) (ρ : Env) : List PyData → Rs (List PyData)
  | [] => .ok []
  | d :: ds => match g d ρ with
    | .ok ρ1 => (match t ρ1 with
      | .ok true => (match e ρ1 with
        | .ok y => (compGo g t e ρ ds).bind fun ys => .ok (y :: ys)
        | _ => .no)
      | .ok false => compGo g t e ρ ds
      | _ => .no)
    | _ => .no
def lComp (it : DL) (g : Tg) (t : DT) (e : DE) (vs : List Nat) : DL := fun ρ => (it ρ).bind fun ds => if ds.length ≤ lim then compGo g t e (wipeE ρ vs) ds else .no

/-! ### calls -/
def saNil : DA := fun _ => .ok []
def frzS : Sl → Rs Sl
  | .fz d => .ok (.fz d)
  | .ex k => .ok (.ex k)
  | .sc ns => .ok (.sc ns)
  | _ => .no
def saCons (b : DB) (r : DA) : DA := fun ρ => (b ρ).bind fun s => (frzS s).bind fun s => (r ρ).bind fun ss => .ok (s :: ss)
def dCall (f : DF) (as : DA) : DE := fun ρ => (as ρ).bind f
def lenS : Sl → Rs PyData
  | .fz (.list ds) => .ok (.int ds.length)
  | .fz (.tuple ds) => .ok (.int ds.length)
  | .fz (.str s) => if s.length ≤ lim then .ok (.int s.length) else .no
  | .ow ds => .ok (.int ds.length)
  | .sc ns => .ok (.int ns.length)
  | _ => .no
def dLen (b : DB) : DE := fun ρ => (b ρ).bind lenS
def boolsOf : List PyData → Option (List Bool)
  | [] => some []
  | .bool b :: r => (boolsOf r).map (b :: ·)
  | _ :: _ => none
def anyD : PyData → Rs PyData
  | .list ds => (ofO (boolsOf ds)).bind fun bs => .ok (.bool (bs.any id))
  | _ => .no
def allD : PyData → Rs PyData
  | .list ds => (ofO (boolsOf ds)).bind fun bs => .ok (.bool (bs.all id))
  | _ => .no
def dAny (e : DE) : DE := fun ρ => (e ρ).bind anyD
def dAll (e : DE) : DE := fun ρ => (e ρ).bind allD
def isTupC : PyData → Bool
  | .tuple (_ :: _) => true
  | _ => false
def isOth : PyData → Bool
  | .none => false
  | .tuple _ => false
  | _ => true
/-- the data may be sorted -/
def sortOk (ds : List PyData) : Bool := (ds.all fun d => ds.all fun d' => W.alike d d') && ((decide (ds.length ≤ 1) && ds.all fun d => match d with | .none => false | _ => true) || ds.all isTupC || ds.all isOth) && ds.all fun d => decide (d.depth ≤ 20)
def sortD (ds : List PyData) : Rs (List PyData) := if ds.length ≤ lim ∧ sortOk ds = true then .ok (ds.mergeSort (W.dataLe false id)) else .no
def sortS : Sl → Rs (List PyData)
  | .fz (.list ds) => sortD ds
  | .fz (.tuple ds) => sortD ds
  | .ow ds => sortD ds
  | .dc kvs => sortD (kvs.map fun p => .tuple (p.1.map .int))
  | _ => .no
def lSorted (b : DB) : DL := fun ρ => (b ρ).bind sortS
/-- rising, none twice: sorted(set(..)) of ints, of pairs of ints -/
def insI (x : Int) : List Int → List Int
  | [] => [x]
  | y :: r => if x < y then x :: y :: r else if x = y then y :: r else y :: insI x r
def upI (ns : List Int) : List Int := ns.foldr insI []
def insP (x : Int × Int) : List (Int × Int) → List (Int × Int)
  | [] => [x]
  | y :: r => if x.1 < y.1 ∨ x.1 = y.1 ∧ x.2 < y.2 then x :: y :: r else if x = y then y :: r else y :: insP x r
def upP (ps : List (Int × Int)) : List (Int × Int) := ps.foldr insP []
def pairOf : PyData → Option (Int × Int)
  | .tuple [.int a, .int b] => some (a, b)
  | _ => none
def pairsOf : List PyData → Option (List (Int × Int))
  | [] => some []
  | d :: r => match pairOf d, pairsOf r with
    | some p, some ps => some (p :: ps)
    | _, _ => none
def prD (p : Int × Int) : PyData := .tuple [.int p.1, .int p.2]
/-- sorted(set(xs)), xs ints -/
def ssetI : PyData → Rs (List PyData)
  | .tuple ds => (ofO (intsOf ds)).bind fun ns => if ns.length < 60 then .ok ((upI ns).map .int) else .no
  | _ => .no
/-- sorted(set(xs)), xs pairs of small ints -/
def ssetP : PyData → Rs (List PyData)
  | .list ds => (ofO (pairsOf ds)).bind fun ps => if ps.length < 60 ∧ ps.all (fun p => decide (0 ≤ p.1 ∧ p.1 < 64 ∧ 0 ≤ p.2 ∧ p.2 < 64)) = true then .ok ((upP ps).map prD) else .no
  | _ => .no
def lSSI (e : DE) : DL := fun ρ => (e ρ).bind ssetI
def lSSP (e : DE) : DL := fun ρ => (e ρ).bind ssetP
def lsetI : PyData → Rs PyData
  | .list ds => (ofO (intsOf ds)).bind fun ns => if ns.length < 4000 then .ok (.int (upI ns).length) else .no
  | _ => .no
/-- len(set(xs)), xs a list of ints -/
def dLenSet (e : DE) : DE := fun ρ => (e ρ).bind lsetI
def listD : Sl → Rs (List PyData)
  | .fz (.list ds) => .ok ds
  | .fz (.tuple ds) => .ok ds
  | .ow ds => .ok ds
  | _ => .no
/-- list(x) -/
def lList (b : DB) : DL := fun ρ => (b ρ).bind listD
/-- tuple(xs) -/
def tupD : PyData → Rs PyData
  | .list ds => .ok (.tuple ds)
  | .tuple ds => .ok (.tuple ds)
  | _ => .no
def dTuple (e : DE) : DE := fun ρ => (e ρ).bind tupD

/-! rising lists -/
theorem pw_unique {α : Type} {lt : α → α → Prop} (asym : ∀ a b, lt a b → lt b a → False) : ∀ {l m : List α}, l.Pairwise lt → m.Pairwise lt → (∀ x, x ∈ l ↔ x ∈ m) → l = m
  | [], [], _, _, _ => rfl
  | [], b :: m, _, _, h => absurd ((h b).mpr List.mem_cons_self) (by simp)
  | a :: l, [], _, _, h => absurd ((h a).mp List.mem_cons_self) (by simp)
  | a :: l, b :: m, hl, hm, h => by
    rw [List.pairwise_cons] at hl hm
    have e : a = b := by
      rcases List.mem_cons.mp ((h a).mp List.mem_cons_self) with q | q
      · exact q
      · rcases List.mem_cons.mp ((h b).mpr List.mem_cons_self) with r | r
        · exact r.symm
        · exact (asym _ _ (hl.1 b r) (hm.1 a q)).elim
    subst e
    rw [pw_unique asym hl.2 hm.2 fun x => ⟨fun q => ?_, fun q => ?_⟩]
    · rcases List.mem_cons.mp ((h x).mp (List.mem_cons_of_mem _ q)) with r | r
      · subst r; exact (asym _ _ (hl.1 _ q) (hl.1 _ q)).elim
      · exact r
    · rcases List.mem_cons.mp ((h x).mpr (List.mem_cons_of_mem _ q)) with r | r
      · subst r; exact (asym _ _ (hm.1 _ q) (hm.1 _ q)).elim
      · exact r
theorem insI_mem {x k : Int} : ∀ {l : List Int}, k ∈ insI x l ↔ k = x ∨ k ∈ l
  | [] => by simp [insI]
  | y :: r => by
    unfold insI
    split
    · simp
    · split
      · rename_i h; subst h; simp
      · rw [List.mem_cons, insI_mem, List.mem_cons]
        constructor
        · rintro (h | h | h) <;> simp [h]
        · rintro (h | h | h) <;> simp [h]
theorem insI_up {x : Int} : ∀ {l : List Int}, l.Pairwise (· < ·) → (insI x l).Pairwise (· < ·)
  | [], _ => by simp [insI]
  | y :: r, h => by
    unfold insI
    have h' := List.pairwise_cons.mp h
    split
    · rename_i q
      refine List.pairwise_cons.mpr ⟨fun z hz => ?_, h⟩
      rcases List.mem_cons.mp hz with e | e
      · subst e; exact q
      · exact Int.lt_trans q (h'.1 z e)
    · split
      · exact h
      · rename_i q1 q2
        refine List.pairwise_cons.mpr ⟨fun z hz => ?_, insI_up h'.2⟩
        rcases insI_mem.mp hz with e | e
        · subst e; omega
        · exact h'.1 z e
theorem upI_mem {k : Int} : ∀ {l : List Int}, k ∈ upI l ↔ k ∈ l
  | [] => Iff.rfl
  | x :: l => by
    show k ∈ insI x (upI l) ↔ _
    rw [insI_mem, upI_mem, List.mem_cons]
theorem upI_up : ∀ l : List Int, (upI l).Pairwise (· < ·)
  | [] => List.Pairwise.nil
  | x :: l => insI_up (upI_up l)
abbrev ltP (p q : Int × Int) : Prop := p.1 < q.1 ∨ p.1 = q.1 ∧ p.2 < q.2
theorem insP_mem {x k : Int × Int} : ∀ {l : List (Int × Int)}, k ∈ insP x l ↔ k = x ∨ k ∈ l
  | [] => by simp [insP]
  | y :: r => by
    unfold insP
    split
    · simp
    · split
      · rename_i h; subst h; simp
      · rw [List.mem_cons, insP_mem, List.mem_cons]
        constructor
        · rintro (h | h | h) <;> simp [h]
        · rintro (h | h | h) <;> simp [h]
theorem insP_up {x : Int × Int} : ∀ {l : List (Int × Int)}, l.Pairwise ltP → (insP x l).Pairwise ltP
  | [], _ => by simp [insP]
  | y :: r, h => by
    unfold insP
    have h' := List.pairwise_cons.mp h
    split
    · rename_i q
      refine List.pairwise_cons.mpr ⟨fun z hz => ?_, h⟩
      rcases List.mem_cons.mp hz with e | e
      · subst e; exact q
      · have := h'.1 z e
        unfold ltP at this ⊢
        omega
    · split
      · exact h
      · rename_i q1 q2
        refine List.pairwise_cons.mpr ⟨fun z hz => ?_, insP_up h'.2⟩
        rcases insP_mem.mp hz with e | e
        · subst e
          have : ¬ (z.1 = y.1 ∧ z.2 = y.2) := fun w => q2 (Prod.ext w.1 w.2)
          unfold ltP
          omega
        · exact h'.1 z e
theorem upP_mem {k : Int × Int} : ∀ {l : List (Int × Int)}, k ∈ upP l ↔ k ∈ l
  | [] => Iff.rfl
  | x :: l => by
    show k ∈ insP x (upP l) ↔ _
    rw [insP_mem, upP_mem, List.mem_cons]
theorem upP_up : ∀ l : List (Int × Int), (upP l).Pairwise ltP
  | [] => List.Pairwise.nil
  | x :: l => insP_up (upP_up l)
theorem ltP_asym (a b : Int × Int) (h : ltP a b) (h' : ltP b a) : False := by
  unfold ltP at h h'
  omega

/-! ### statements -/
inductive Ou where
  | nx (ρ : Env)
  | rt (d : PyData)
  | bk (ρ : Env)
  | ct (ρ : Env)
  | er (k : XK) (ρ : Env)
  | no
abbrev DS := Env → Ou
def bE {α : Type} (r : Rs α) (ρ : Env) (f : α → Ou) : Ou := match r with
  | .ok a => f a
  | .er k => .er k ρ
  | .no => .no
@[simp] theorem bE_ok {α : Type} (a : α) (ρ : Env) (f : α → Ou) : bE (.ok a) ρ f = f a := rfl
@[simp] theorem bE_er {α : Type} (k : XK) (ρ : Env) (f : α → Ou) : bE (.er k : Rs α) ρ f = .er k ρ := rfl
@[simp] theorem bE_no {α : Type} (ρ : Env) (f : α → Ou) : bE (.no : Rs α) ρ f = .no := rfl
def sNx : DS := fun ρ => .nx ρ
def sSeq (f g : DS) : DS := fun ρ => match f ρ with
  | .nx ρ' => g ρ'
  | o => o
def sSet (i : Nat) (e : DE) : DS := fun ρ => bE (e ρ) ρ fun d => .nx (ρ.set i (.fz d))
/-- an owned list comes to slot i -/
def sOwn (i : Nat) (l : DL) : DS := fun ρ => bE (l ρ) ρ fun ds => .nx (ρ.set i (.ow ds))
def sTg (g : Tg) (e : DE) : DS := fun ρ => bE (e ρ) ρ fun d => bE (g d ρ) ρ fun ρ' => .nx ρ'
def sExpr (e : DE) : DS := fun ρ => bE (e ρ) ρ fun _ => .nx ρ
def sRet (e : DE) : DS := fun ρ => bE (e ρ) ρ fun d => .rt d
def sIf (t : DT) (f g : DS) : DS := fun ρ => bE (t ρ) ρ fun b => if b = true then f ρ else g ρ
/-- x.append(e), x owned -/
def sApp (i : Nat) (e : DE) : DS := fun ρ => match ρ[i]? with
  | some (.ow ds) => bE (e ρ) ρ fun d => if ds.length < lim then .nx (ρ.set i (.ow (ds ++ [d]))) else .no
  | _ => .no
/-- x.extend(l), l a new list -/
def sExt (i : Nat) (l : DL) : DS := fun ρ => match ρ[i]? with
  | some (.ow ds) => bE (l ρ) ρ fun es => if ds.length + es.length ≤ lim then .nx (ρ.set i (.ow (ds ++ es))) else .no
  | _ => .no
/-- y = x.pop(), x owned -/
def sPop (j i : Nat) : DS := fun ρ => match ρ[i]? with
  | some (.ow ds) => (match ds.getLast? with
    | some d => .nx ((ρ.set i (.ow ds.dropLast)).set j (.fz d))
    | none => .no)
  | _ => .no
/-- from here on slot i is frozen -/
def sFrz (i : Nat) : DS := fun ρ => match ρ[i]? with
  | some (.ow ds) => .nx (ρ.set i (.fz (.list ds)))
  | _ => .nx ρ
def loopGo (g : Tg) (b : DS) : List PyData → Env → Ou
  | [], ρ => .nx ρ
  | d :: ds, ρ => bE (g d ρ) ρ fun ρ1 => match b ρ1 with
    | .nx ρ2 => loopGo g b ds ρ2
    | .ct ρ2 => loopGo g b ds ρ2
    | .bk ρ2 => .nx ρ2
    | o => o
def sFor (it : DL) (g : Tg) (b : DS) : DS := fun ρ => bE (it ρ) ρ fun ds => loopGo g b ds ρ
def sWhile (t : DT) (b : DS) : Nat → DS
  | 0, _ => .no
  | n + 1, ρ => bE (t ρ) ρ fun k => if k = true then (match b ρ with
    | .nx ρ2 => sWhile t b n ρ2
    | .ct ρ2 => sWhile t b n ρ2
    | .bk ρ2 => .nx ρ2
    | o => o) else .nx ρ
def sRaise (k : XK) : DS := fun ρ => .er k ρ
/-- try: b except (the kinds in ks) as n: m = n -/
def sTry (b : DS) (ks : XK → Bool) (n m : Nat) : DS := fun ρ => match b ρ with
  | .er k ρ' => if ks k = true then (if n < ρ'.length then .nx ((ρ'.set n .nil).set m (.ex k)) else .no) else .er k ρ'
  | o => o
/-- {k: v}, an owned dict; d[k] = v; d[k]; d.get(k) -/
def putT (kvs : List (List Int × PyData)) (k : List Int) (v : PyData) : List (List Int × PyData) :=
  if (kvs.any fun p => decide (p.1 = k)) = true then kvs.map (fun p => if p.1 = k then (p.1, v) else p) else kvs ++ [(k, v)]
def tkey : PyData → Rs (List Int)
  | .tuple ds => ofO (intsOf ds)
  | _ => .no
def sDic (i : Nat) : DS := fun ρ => .nx (ρ.set i (.dc []))
def sDput (i : Nat) (k v : DE) : DS := fun ρ => match ρ[i]? with
  | some (.dc kvs) => bE (v ρ) ρ fun y => bE (k ρ) ρ fun x => bE (tkey x) ρ fun ns => if kvs.length < lim then .nx (ρ.set i (.dc (putT kvs ns y))) else .no
  | _ => .no
def sDic1 (i : Nat) (k v : DE) : DS := fun ρ => bE (k ρ) ρ fun x => bE (v ρ) ρ fun y => bE (tkey x) ρ fun ns => .nx (ρ.set i (.dc [(ns, y)]))
def getT (kvs : List (List Int × PyData)) (k : List Int) : Option PyData := match kvs with
  | [] => none
  | p :: r => if p.1 = k then some p.2 else getT r k
def dDget (i : Nat) (k : DE) : DE := fun ρ => match ρ[i]? with
  | some (.dc kvs) => (k ρ).bind fun x => (tkey x).bind fun ns => ofO (getT kvs ns)
  | _ => .no
def dDgetN (i : Nat) (k : DE) : DE := fun ρ => match ρ[i]? with
  | some (.dc kvs) => (k ρ).bind fun x => (tkey x).bind fun ns => .ok ((getT kvs ns).getD .none)
  | _ => .no
/-- the turns that a while may take -/
def fuel : Nat := 100000
def ksAll : XK → Bool := fun _ => true
def ksMW : XK → Bool := fun k => match k with
  | .web => true
  | .marks => true
  | _ => false
/-- what a def computes -/
def runD (b : DS) (n : Nat) (as : List Sl) : Rs PyData := match b (as ++ List.replicate (n - as.length) .nil) with
  | .nx _ => .ok .none
  | .rt d => .ok d
  | .er k _ => .er k
  | _ => .no
def kName : XK → Str
  | .web => "web"
  | .marks => "marks"
  | .slide => "slide"
  | .unlike => "unlike"
  | .tree => "tree"
  | .text => "text"
/-- what stands beside i, in the lines' turn -/
def besideL (i : Int) : List (Int × Int) → List Int
  | [] => []
  | (a, b) :: r => (if a = i then [b] else []) ++ (if b = i then [a] else []) ++ besideL i r
def sortZ (ns : List Int) : List Int := ns.mergeSort fun a b => decide (a ≤ b)
def nearD (n : Nat) (ps : List (Int × Int)) : PyData := .list ((List.range n).map fun (i : Nat) => .list ((sortZ (besideL i ps)).map .int))
def dIsB (b : DB) : DE := fun ρ => (b ρ).bind fun s => match s with
  | .fz (.bool _) => .ok (.bool true)
  | .fz (.str _) => .ok (.bool false)
  | .fz (.list _) => .ok (.bool false)
  | .fz (.tuple _) => .ok (.bool false)
  | _ => .no
/-- isinstance(e, C), C the k's class; isinstance(e, ValueError) -/
def dIsK (k : XK) (b : DB) : DE := fun ρ => (b ρ).bind fun s => match s with
  | .ex k' => .ok (.bool (decide (k' = k)))
  | _ => .no
def dIsV (b : DB) : DE := fun ρ => (b ρ).bind fun s => match s with
  | .ex _ => .ok (.bool true)
  | _ => .no
/-- l.count(x), l.index(x) -/
def cntD (ds : List PyData) (d : PyData) : Rs PyData := if SeqAt.shaped d = true ∧ SeqAt.shaped (.list ds) = true then .ok (.int (ds.countP fun z => PyData.eqv z d)) else .no
def idxD (ds : List PyData) (d : PyData) : Rs PyData := if SeqAt.shaped d = true ∧ SeqAt.shaped (.list ds) = true then (ofO (ds.findIdx? fun z => PyData.eqv z d)).bind fun i => .ok (.int i) else .no
def dCnt (a b : DE) : DE := fun ρ => (a ρ).bind fun l => match l with
  | .list ds => (b ρ).bind fun d => cntD ds d
  | _ => .no
def dIdx (a b : DE) : DE := fun ρ => (a ρ).bind fun l => match l with
  | .list ds => (b ρ).bind fun d => idxD ds d
  | _ => .no
/-- the first two statements of near: the lists of what stands beside each spot -/
def addAt (dss : List (List Int)) (i : Nat) (x : Int) : List (List Int) := dss.set i (dss.getD i [] ++ [x])
def nearGo : List (Int × Int) → List (List Int) → List (List Int)
  | [], dss => dss
  | (a, b) :: r, dss => nearGo r (addAt (addAt dss a.toNat b) b.toNat a)
def sNear (iw iF i1 i2 : Nat) : DS := fun ρ => match ρ[iw]? with
  | some (.fz (.tuple [.int n, .list ls])) => (match pairsOf ls with
    | some ps => if (0 ≤ n ∧ n ≤ 1000 ∧ ps.length ≤ 1000 ∧ ps.all (fun p => decide (0 ≤ p.1 ∧ p.1 < n ∧ 0 ≤ p.2 ∧ p.2 < n)) = true) ∧ ρ.all (fun s => !s.own) = true ∧ iF < ρ.length ∧ i1 < ρ.length ∧ i2 < ρ.length then
        .nx (((ρ.set i1 .nil).set i2 .nil).set iF (.fz (.list ((nearGo ps (List.replicate n.toNat [])).map fun ns => .list (ns.map .int))))) else .no
    | none => .no)
  | _ => .no
end MS

/-! MsLayA: plain data in the abstract heap; the slots' relation; the judgements. -/
namespace MS
open PySem L2 PyProof.Rows

theorem lim_lt {n : Nat} (h : n ≤ lim) : n < sizeLine := Nat.lt_of_le_of_lt h (by decide)
theorem lim_le {n : Nat} (h : n ≤ lim) : n ≤ sizeLine := Nat.le_of_lt (lim_lt h)

/-! ### data at a value, within the frozen part -/
mutual
inductive Dt (B : Hp) : V → PyData → Prop
  | non : Dt B .non .none
  | bl (b : Bool) : Dt B (.bl b) (.bool b)
  | int (i : Int) : Dt B (.int i) (.int i)
  | str (x : Str) : Dt B (.str x) (.str x)
  | lst {a : Addr} {xs : List V} {ds : List PyData} : B a = some (.lst xs) → DtAll B xs ds → Dt B (.ref a) (.list ds)
  | tup {a : Addr} {xs : List V} {ds : List PyData} : B a = some (.tup xs) → DtAll B xs ds → Dt B (.ref a) (.tuple ds)
inductive DtAll (B : Hp) : List V → List PyData → Prop
  | nil : DtAll B [] []
  | cons {v : V} {vs : List V} {d : PyData} {ds : List PyData} : Dt B v d → DtAll B vs ds → DtAll B (v :: vs) (d :: ds)
end
section
variable {B B' : Hp}
mutual
theorem Dt.mono (e : Same B B') : ∀ {v : V} (d : PyData), Dt B v d → Dt B' v d
  | _, .none, h => by cases h; exact .non
  | _, .bool _, h => by cases h; exact .bl _
  | _, .int _, h => by cases h; exact .int _
  | _, .str _, h => by cases h; exact .str _
  | _, .list ds, h => by
    cases h with
    | lst h1 h2 => exact .lst (e _ _ h1) (DtAll.mono e ds h2)
  | _, .tuple ds, h => by
    cases h with
    | tup h1 h2 => exact .tup (e _ _ h1) (DtAll.mono e ds h2)
  | _, .dict _, h => by cases h
theorem DtAll.mono (e : Same B B') : ∀ {vs : List V} (ds : List PyData), DtAll B vs ds → DtAll B' vs ds
  | _, [], h => by cases h; exact .nil
  | _, d :: ds, h => by
    cases h with
    | cons h1 h2 => exact .cons (Dt.mono e d h1) (DtAll.mono e ds h2)
end
end
theorem Dt.on {B B' : Hp} {v : V} {d : PyData} (h : Dt B v d) (e : Same B B') : Dt B' v d := Dt.mono e d h
theorem DtAll.on {B B' : Hp} {vs : List V} {ds : List PyData} (h : DtAll B vs ds) (e : Same B B') : DtAll B' vs ds := DtAll.mono e ds h
mutual
theorem Dt.dp {K : PySem.W.Frag} {B : Hp} : ∀ {v : V} (d : PyData), Dt B v d → Dp K B v d
  | _, .none, h => by cases h; exact .non
  | _, .bool _, h => by cases h; exact .bl _
  | _, .int _, h => by cases h; exact .int _
  | _, .str _, h => by cases h; exact .str _
  | _, .list ds, h => by
    cases h with
    | lst h1 h2 => exact .lst (SqL.of h1) (DtAll.dp ds h2)
  | _, .tuple ds, h => by
    cases h with
    | tup h1 h2 => exact .tup (SqT.of h1) (DtAll.dp ds h2)
  | _, .dict _, h => by cases h
theorem DtAll.dp {K : PySem.W.Frag} {B : Hp} : ∀ {vs : List V} (ds : List PyData), DtAll B vs ds → DpAll K B vs ds
  | _, [], h => by cases h; exact .nil
  | _, d :: ds, h => by
    cases h with
    | cons h1 h2 => exact .cons (Dt.dp d h1) (DtAll.dp ds h2)
end
theorem DtAll.len {B : Hp} : ∀ {vs : List V} {ds : List PyData}, DtAll B vs ds → vs.length = ds.length
  | _, [], h => by cases h; rfl
  | _, d :: ds, h => by
    cases h with
    | cons h1 h2 => rw [List.length_cons, List.length_cons, DtAll.len h2]
theorem DtAll.app {B : Hp} : ∀ {vs us : List V} {ds es : List PyData}, DtAll B vs ds → DtAll B us es → DtAll B (vs ++ us) (ds ++ es)
  | _, _, [], _, h, k => by cases h; exact k
  | _, _, d :: ds, _, h, k => by
    cases h with
    | cons h1 h2 => exact .cons h1 (DtAll.app h2 k)
theorem DtAll.one {B : Hp} {v : V} {d : PyData} (h : Dt B v d) : DtAll B [v] [d] := .cons h .nil
theorem DtAll.get {B : Hp} : ∀ {vs : List V} {ds : List PyData} {i : Nat} {v : V}, DtAll B vs ds → vs[i]? = some v → ∃ d, ds[i]? = some d ∧ Dt B v d
  | _, [], i, v, h, e => by cases h; simp at e
  | _, d :: ds, 0, v, h, e => by
    cases h with
    | cons h1 h2 => simp at e; subst e; exact ⟨d, rfl, h1⟩
  | _, d :: ds, i + 1, v, h, e => by
    cases h with
    | cons h1 h2 => exact DtAll.get (i := i) h2 (by simpa using e)
theorem DtAll.getD {B : Hp} : ∀ {vs : List V} {ds : List PyData} {i : Nat} {d : PyData}, DtAll B vs ds → ds[i]? = some d → ∃ v, vs[i]? = some v ∧ Dt B v d
  | _, [], i, d, h, e => by simp at e
  | _, d' :: ds, 0, d, h, e => by
    cases h with
    | cons h1 h2 => simp at e; subst e; exact ⟨_, rfl, h1⟩
  | _, d' :: ds, i + 1, d, h, e => by
    cases h with
    | cons h1 h2 => exact DtAll.getD (i := i) h2 (by simpa using e)
theorem DtAll.drop {B : Hp} : ∀ {vs : List V} {ds : List PyData} (n : Nat), DtAll B vs ds → DtAll B (vs.drop n) (ds.drop n)
  | _, _, 0, h => h
  | _, [], n + 1, h => by cases h; exact .nil
  | _, d :: ds, n + 1, h => by
    cases h with
    | cons h1 h2 => exact DtAll.drop n h2
theorem DtAll.take {B : Hp} : ∀ {vs : List V} {ds : List PyData} (n : Nat), DtAll B vs ds → DtAll B (vs.take n) (ds.take n)
  | _, _, 0, h => .nil
  | _, [], n + 1, h => by cases h; exact .nil
  | _, d :: ds, n + 1, h => by
    cases h with
    | cons h1 h2 => exact .cons h1 (DtAll.take n h2)
theorem DtAll.rev {B : Hp} {vs : List V} {ds : List PyData} (h : DtAll B vs ds) : DtAll B vs.reverse ds.reverse := by
  induction ds generalizing vs with
  | nil => cases h; exact .nil
  | cons d ds ih =>
    cases h with
    | cons h1 h2 =>
      rw [List.reverse_cons, List.reverse_cons]
      exact DtAll.app (ih h2) (.one h1)
theorem DtAll.rep {B : Hp} {vs : List V} {ds : List PyData} (h : DtAll B vs ds) : ∀ k : Nat, DtAll B (List.replicate k vs).flatten (List.replicate k ds).flatten
  | 0 => .nil
  | k + 1 => by
    rw [List.replicate_succ, List.replicate_succ, List.flatten_cons, List.flatten_cons]
    exact DtAll.app h (DtAll.rep h k)
theorem DtAll.init {B : Hp} {vs : List V} {ds : List PyData} (h : DtAll B vs ds) : DtAll B vs.dropLast ds.dropLast := by
  rw [List.dropLast_eq_take, List.dropLast_eq_take, h.len]
  exact h.take _
theorem DtAll.ints {B : Hp} : ∀ {vs : List V} {ds : List PyData} {ns : List Int}, DtAll B vs ds → intsOf ds = some ns → vs = ns.map V.int
  | _, [], ns, h, e => by
    cases h
    have e' : ([] : List Int) = ns := Option.some.inj e
    subst e'; rfl
  | _, d :: ds, ns, h, e => by
    cases h with
    | cons h1 h2 =>
      cases d with
      | int i =>
        have e' : (intsOf ds).map (i :: ·) = some ns := e
        cases q : intsOf ds with
        | none => rw [q] at e'; simp at e'
        | some ms =>
          rw [q] at e'
          have e2 : i :: ms = ns := by simpa using e'
          subst e2
          cases h1
          rw [List.map_cons, ← DtAll.ints h2 q]
      | _ => simp [intsOf] at e
theorem DtAll.of_ints {B : Hp} : ∀ ns : List Int, DtAll B (ns.map V.int) (ns.map PyData.int)
  | [] => .nil
  | n :: ns => .cons (.int n) (DtAll.of_ints ns)
theorem DtAll.bools {B : Hp} : ∀ {vs : List V} {ds : List PyData} {bs : List Bool}, DtAll B vs ds → boolsOf ds = some bs → vs = bs.map V.bl
  | _, [], bs, h, e => by
    cases h
    have e' : ([] : List Bool) = bs := Option.some.inj e
    subst e'; rfl
  | _, d :: ds, ns, h, e => by
    cases h with
    | cons h1 h2 =>
      cases d with
      | bool i =>
        have e' : (boolsOf ds).map (i :: ·) = some ns := e
        cases q : boolsOf ds with
        | none => rw [q] at e'; simp at e'
        | some ms =>
          rw [q] at e'
          have e2 : i :: ms = ns := by simpa using e'
          subst e2
          cases h1
          rw [List.map_cons, ← DtAll.bools h2 q]
      | _ => simp [boolsOf] at e
theorem intsOf_map : ∀ ns : List Int, intsOf (ns.map .int) = some ns
  | [] => rfl
  | n :: ns => by
    show (intsOf (ns.map .int)).map (n :: ·) = _
    rw [intsOf_map ns]; rfl
theorem intsOf_eq : ∀ {ds : List PyData} {ns : List Int}, intsOf ds = some ns → ds = ns.map .int
  | [], ns, e => by
    have e' : ([] : List Int) = ns := Option.some.inj e
    subst e'; rfl
  | d :: ds, ns, e => by
    cases d with
    | int i =>
      have e' : (intsOf ds).map (i :: ·) = some ns := e
      cases q : intsOf ds with
      | none => rw [q] at e'; simp at e'
      | some ms =>
        rw [q] at e'
        have e2 : i :: ms = ns := by simpa using e'
        subst e2
        rw [List.map_cons, ← intsOf_eq q]
    | _ => simp [intsOf] at e

/-! ### frozen part and heap, extended -/
structure Ext (B H B' H' : Hp) : Prop where
  b : Same B B'
  h : Same H H'
  s : Same B' H'
  n : ∀ a o, B' a = some o → B a = some o ∨ H a = none ∨ (H a = some o ∧ ∃ xs, o = .tup xs)
theorem Ext.refl {B H : Hp} (s : Same B H) : Ext B H B H := ⟨Same.refl _, Same.refl _, s, fun _ _ e => .inl e⟩
theorem Ext.trans {B H B1 H1 B2 H2 : Hp} (x : Ext B H B1 H1) (y : Ext B1 H1 B2 H2) : Ext B H B2 H2 :=
  ⟨x.b.trans y.b, x.h.trans y.h, y.s, fun a o e => by
    rcases y.n a o e with q | q | ⟨q, xs, rfl⟩
    · exact x.n a o q
    · exact .inr (.inl (x.h.free q))
    · cases z : H a with
      | none => exact .inr (.inl rfl)
      | some u =>
        have z2 := x.h _ _ z
        rw [q] at z2
        exact .inr (.inr ⟨by rw [← Option.some.inj z2], xs, rfl⟩)⟩
theorem same_new {H : Hp} {p : Addr} {o : HO} (h : H p = none) : Same H (upd H p o) := fun a u e => by
  rw [upd_ne (ne_of_none e h)]
  exact e
/-- a new object, frozen -/
theorem Ext.new {B H : Hp} {p : Addr} {o : HO} (s : Same B H) (h : H p = none) : Ext B H (upd B p o) (upd H p o) :=
  ⟨same_new (s.free h), same_new h, fun a u e => by
    by_cases q : a = p
    · subst q; rw [upd_same] at e ⊢; exact e
    · rw [upd_ne q] at e ⊢; exact s _ _ e, fun a u e => by
    by_cases q : a = p
    · subst q; exact .inr (.inl h)
    · rw [upd_ne q] at e; exact .inl e⟩
/-- a new object, not frozen -/
theorem Ext.raw {B H : Hp} {p : Addr} {o : HO} (s : Same B H) (h : H p = none) : Ext B H B (upd H p o) :=
  ⟨Same.refl _, same_new h, s.trans (same_new h), fun _ _ e => .inl e⟩

/-! ### slots -/
structure Cc where
  G : Hp
  B0 : Hp
  W : WX
  ec : XK → Addr
/-- an error's object, of the class at C, without a dict of its own -/
def exO (a C : Addr) : HO := .ext fun h => ∃ oe vs, h.get? a = some oe ∧ oe.cls = .ref C ∧ oe.dict = none ∧ oe.data = .fields vs
def SlA (K : PySem.W.Frag) (ec : XK → Addr) (B : Hp) (v : V) : Sl → Prop
  | .fz d => Dt B v d
  | .ex k => ∃ a, v = .ref a ∧ B a = some (exO a (ec k))
  | .sc ns => ∃ a, v = .ref a ∧ SqL K B a (ns.map V.int)
  | _ => False
/-- the keys' tuples, the values' data -/
def KvT (B : Hp) : List (List Key × V) → List (List Int × PyData) → Prop := Paired fun p q => p.1 = q.1.map Sum.inl ∧ Dt B p.2 q.2
def SlV (K : PySem.W.Frag) (C : Cc) (B H : Hp) (v : V) : Sl → Prop
  | .ow ds => ∃ a xs, v = .ref a ∧ H a = some (.lst xs) ∧ B a = none ∧ C.G a = none ∧ DtAll B xs ds
  | .dc kvs => ∃ a ks, v = .ref a ∧ H a = some (.dT ks) ∧ B a = none ∧ C.G a = none ∧ KvT B ks kvs
  | s => SlA K C.ec B v s
structure RelS (K : PySem.W.Frag) (C : Cc) (B H : Hp) (σ : L2.St) (ρ : Env) : Prop where
  len : σ.length = ρ.length
  at' : ∀ (i : Nat) (s : Sl), ρ[i]? = some s → s ≠ .nil → ∃ v, σ[i]? = some (some v) ∧ SlV K C B H v s
  sep : ∀ (i j : Nat) (s t : Sl) (v : V), i ≠ j → ρ[i]? = some s → ρ[j]? = some t → s.own = true → t.own = true → σ[i]? = some (some v) → σ[j]? = some (some v) → False
structure Stt (K : PySem.W.Frag) (C : Cc) (B H : Hp) (σ : L2.St) (ρ : Env) : Prop where
  x : Ext C.B0 C.G B H
  r : RelS K C B H σ ρ
section
variable {K : PySem.W.Frag} {C : Cc} {B H B' H' : Hp} {σ : L2.St} {ρ : Env} {v : V} {s : Sl}
theorem Sq_mono {a : Addr} {xs : List V} (h : SqL K B a xs) (e : Same B B') : SqL K B' a xs := e.seq h
theorem SlA.on {ec : XK → Addr} (h : SlA K ec B v s) (e : Same B B') : SlA K ec B' v s := by
  cases s with
  | fz d => exact Dt.on h e
  | ex k => obtain ⟨a, q, z⟩ := h; exact ⟨a, q, e _ _ z⟩
  | sc ns => obtain ⟨a, q, z⟩ := h; exact ⟨a, q, Sq_mono z e⟩
  | nil => exact h
  | ow _ => exact h
  | dc _ => exact h
theorem none_ext {a : Addr} {o : HO} (x : Ext B H B' H') (h : H a = some o) (n : B a = none) (nt : ∀ xs, o ≠ .tup xs := by intro _ q; cases q) : B' a = none := by
  cases q : B' a with
  | none => rfl
  | some u =>
    rcases x.n a u q with z | z | ⟨z, xs, rfl⟩
    · rw [n] at z; cases z
    · rw [h] at z; cases z
    · rw [h] at z; exact absurd (Option.some.inj z) (nt xs)
theorem KvT.on {ks : List (List Key × V)} {kvs : List (List Int × PyData)} (h : KvT B ks kvs) (e : Same B B') : KvT B' ks kvs :=
  Paired.mapP h fun _ _ z => ⟨z.1, z.2.on e⟩
theorem SlV.on (h : SlV K C B H v s) (x : Ext B H B' H') : SlV K C B' H' v s := by
  cases s with
  | ow ds => obtain ⟨a, xs, q, h1, h2, h3, h4⟩ := h; exact ⟨a, xs, q, x.h _ _ h1, none_ext x h1 h2, h3, h4.on x.b⟩
  | dc kvs => obtain ⟨a, xs, q, h1, h2, h3, h4⟩ := h; exact ⟨a, xs, q, x.h _ _ h1, none_ext x h1 h2, h3, h4.on x.b⟩
  | nil => exact h
  | fz d => exact Dt.on h x.b
  | ex k => exact SlA.on (K := K) (ec := C.ec) (s := .ex k) h x.b
  | sc ns => exact SlA.on (K := K) (ec := C.ec) (s := .sc ns) h x.b
theorem SlV.ofA (h : SlA K C.ec B v s) : SlV K C B H v s := by
  cases s with
  | ow ds => exact h.elim
  | dc kvs => exact h.elim
  | nil => exact h
  | fz d => exact h
  | ex k => exact h
  | sc ns => exact h
theorem Stt.on (S : Stt K C B H σ ρ) (x : Ext B H B' H') : Stt K C B' H' σ ρ :=
  ⟨S.x.trans x, ⟨S.r.len, fun i s e n => let ⟨v, h1, h2⟩ := S.r.at' i s e n; ⟨v, h1, h2.on x⟩, S.r.sep⟩⟩
theorem Stt.sm (S : Stt K C B H σ ρ) : Same B H := S.x.s
/-- a slot of one's own is set (an unowned thing) -/
theorem Stt.setA (S : Stt K C B H σ ρ) (i : Nat) (h : SlA K C.ec B v s) (no : s.own = false) : Stt K C B H (σ.set i (some v)) (ρ.set i s) := by
  refine ⟨S.x, ⟨by rw [List.length_set, List.length_set]; exact S.r.len, fun j t e n => ?_, fun j k t u w hjk e1 e2 o1 o2 f1 f2 => ?_⟩⟩
  · by_cases q : i = j
    · subst q
      have hl : i < ρ.length := by
        have := (List.getElem?_eq_some_iff.mp e).1
        rw [List.length_set] at this; exact this
      rw [List.getElem?_set_self hl] at e
      have e' : s = t := Option.some.inj e
      subst e'
      exact ⟨v, List.getElem?_set_self (by rw [S.r.len]; exact hl), SlV.ofA h⟩
    · rw [List.getElem?_set_ne q] at e ⊢
      exact S.r.at' j t e n
  · have g : ∀ {m : Nat} {t : Sl}, (ρ.set i s)[m]? = some t → t.own = true → i ≠ m := fun {m t} e o q => by
      subst q
      have hl : i < ρ.length := by
        have := (List.getElem?_eq_some_iff.mp e).1
        rw [List.length_set] at this; exact this
      rw [List.getElem?_set_self hl] at e
      have e' : s = t := Option.some.inj e
      subst e'
      rw [no] at o; cases o
    have a1 := g e1 o1
    have a2 := g e2 o2
    rw [List.getElem?_set_ne a1] at e1 f1
    rw [List.getElem?_set_ne a2] at e2 f2
    exact S.r.sep j k t u w hjk e1 e2 o1 o2 f1 f2
theorem Stt.set (S : Stt K C B H σ ρ) (i : Nat) {d : PyData} (h : Dt B v d) : Stt K C B H (σ.set i (some v)) (ρ.set i (.fz d)) := S.setA i (s := .fz d) h rfl
/-- a slot is forgotten -/
theorem Stt.unset (S : Stt K C B H σ ρ) (i : Nat) : Stt K C B H (σ.set i none) (ρ.set i .nil) := by
  refine ⟨S.x, ⟨by rw [List.length_set, List.length_set]; exact S.r.len, fun j t e n => ?_, fun j k t u w hjk e1 e2 o1 o2 f1 f2 => ?_⟩⟩
  · by_cases q : i = j
    · subst q
      have hl : i < ρ.length := by
        have := (List.getElem?_eq_some_iff.mp e).1
        rw [List.length_set] at this; exact this
      rw [List.getElem?_set_self hl] at e
      exact absurd (Option.some.inj e).symm n
    · rw [List.getElem?_set_ne q] at e ⊢
      exact S.r.at' j t e n
  · have g : ∀ {m : Nat} {t : Sl}, (ρ.set i .nil)[m]? = some t → t.own = true → i ≠ m := fun {m t} e o q => by
      subst q
      have hl : i < ρ.length := by
        have := (List.getElem?_eq_some_iff.mp e).1
        rw [List.length_set] at this; exact this
      rw [List.getElem?_set_self hl] at e
      have e' : Sl.nil = t := Option.some.inj e
      subst e'
      cases o
    have a1 := g e1 o1
    have a2 := g e2 o2
    rw [List.getElem?_set_ne a1] at e1 f1
    rw [List.getElem?_set_ne a2] at e2 f2
    exact S.r.sep j k t u w hjk e1 e2 o1 o2 f1 f2
/-- what an owned slot holds -/
theorem Stt.ownAt (S : Stt K C B H σ ρ) {i : Nat} (e : ρ[i]? = some s) (o : s.own = true) : ∃ a u, σ[i]? = some (some (.ref a)) ∧ H a = some u ∧ B a = none ∧ C.G a = none := by
  obtain ⟨v, h1, h2⟩ := S.r.at' i s e (by rintro rfl; cases o)
  cases s with
  | ow ds => obtain ⟨a, xs, rfl, q1, q2, q3, _⟩ := h2; exact ⟨a, _, h1, q1, q2, q3⟩
  | dc kvs => obtain ⟨a, xs, rfl, q1, q2, q3, _⟩ := h2; exact ⟨a, _, h1, q1, q2, q3⟩
  | nil => cases o
  | fz d => cases o
  | ex k => cases o
  | sc ns => cases o
theorem get_set_some {α : Type} {l : List α} {i j : Nat} {x y : α} (h : (l.set i x)[j]? = some y) : (i = j ∧ y = x ∧ i < l.length) ∨ (i ≠ j ∧ l[j]? = some y) := by
  by_cases q : i = j
  · subst q
    have hl : i < l.length := by
      have := (List.getElem?_eq_some_iff.mp h).1
      rw [List.length_set] at this; exact this
    rw [List.getElem?_set_self hl] at h
    exact .inl ⟨rfl, (Option.some.inj h).symm, hl⟩
  · rw [List.getElem?_set_ne q] at h
    exact .inr ⟨q, h⟩
/-- a new owned thing at a fresh address comes to a slot -/
theorem Stt.setO {a : Addr} {o : HO} (S : Stt K C B H σ ρ) (i : Nat) (hn : H a = none) (ho : s.own = true) (hs : SlV K C B (upd H a o) (.ref a) s) : Stt K C B (upd H a o) (σ.set i (some (.ref a))) (ρ.set i s) := by
  have S1 : Stt K C B (upd H a o) σ ρ := S.on (Ext.raw S.sm hn)
  have far : ∀ (j : Nat) (t : Sl), ρ[j]? = some t → t.own = true → σ[j]? = some (some (V.ref a)) → False := fun j t e ot f => by
    obtain ⟨b, u, g1, g2, _⟩ := S.ownAt e ot
    rw [f] at g1
    injection g1 with g1; injection g1 with g1; injection g1 with g1
    subst g1
    rw [hn] at g2; cases g2
  refine ⟨S1.x, ⟨by rw [List.length_set, List.length_set]; exact S1.r.len, fun j t e n => ?_, fun j k t u w hjk e1 e2 o1 o2 f1 f2 => ?_⟩⟩
  · rcases get_set_some e with ⟨q, rfl, hl⟩ | ⟨q, e⟩
    · subst q
      exact ⟨.ref a, List.getElem?_set_self (by rw [S.r.len]; exact hl), hs⟩
    · rw [List.getElem?_set_ne q]
      exact S1.r.at' j t e n
  · rcases get_set_some e1 with ⟨q1, hts, hl⟩ | ⟨q1, e1⟩
    · subst q1
      rw [List.getElem?_set_self (by rw [S.r.len]; exact hl)] at f1
      have f1' : V.ref a = w := Option.some.inj (Option.some.inj f1)
      subst f1'
      rcases get_set_some e2 with ⟨q2, _, _⟩ | ⟨q2, e2⟩
      · exact hjk q2
      · rw [List.getElem?_set_ne q2] at f2
        exact far k u e2 o2 f2
    · rw [List.getElem?_set_ne q1] at f1
      rcases get_set_some e2 with ⟨q2, hts, hl⟩ | ⟨q2, e2⟩
      · subst q2
        rw [List.getElem?_set_self (by rw [S.r.len]; exact hl)] at f2
        have f2' : V.ref a = w := Option.some.inj (Option.some.inj f2)
        subst f2'
        exact far j t e1 o1 f1
      · rw [List.getElem?_set_ne q2] at f2
        exact S.r.sep j k t u w hjk e1 e2 o1 o2 f1 f2
/-- an owned thing is changed in place -/
theorem Stt.mut {i : Nat} {a : Addr} {o : HO} {t : Sl} (S : Stt K C B H σ ρ) (e : ρ[i]? = some s) (hso : s.own = true) (hσ : σ[i]? = some (some (.ref a))) (hto : t.own = true) (ht : SlV K C B (upd H a o) (.ref a) t) : Stt K C B (upd H a o) σ (ρ.set i t) := by
  obtain ⟨b, u, g1, g2, g3, g4⟩ := S.ownAt e hso
  rw [hσ] at g1
  injection g1 with g1; injection g1 with g1; injection g1 with g1
  subst g1
  have ext : Ext C.B0 C.G B (upd H a o) := ⟨S.x.b, fun c w q => by
      have : c ≠ a := fun z => by subst z; rw [g4] at q; cases q
      rw [upd_ne this]; exact S.x.h _ _ q, fun c w q => by
      have : c ≠ a := fun z => by subst z; rw [g3] at q; cases q
      rw [upd_ne this]; exact S.x.s _ _ q, S.x.n⟩
  refine ⟨ext, ⟨by rw [List.length_set]; exact S.r.len, fun j w f n => ?_, fun j k w1 w2 w hjk e1 e2 o1 o2 f1 f2 => ?_⟩⟩
  · rcases get_set_some f with ⟨q, rfl, hl⟩ | ⟨q, f⟩
    · subst q
      exact ⟨.ref a, hσ, ht⟩
    · obtain ⟨v, h1, h2⟩ := S.r.at' j w f n
      refine ⟨v, h1, ?_⟩
      cases w with
      | ow ds =>
        obtain ⟨c, xs, rfl, z1, z2, z3, z4⟩ := h2
        have : c ≠ a := fun z => by
          subst z
          exact S.r.sep i j s (.ow ds) (.ref c) q e f hso rfl hσ h1
        exact ⟨c, xs, rfl, by rw [upd_ne this]; exact z1, z2, z3, z4⟩
      | dc ds =>
        obtain ⟨c, xs, rfl, z1, z2, z3, z4⟩ := h2
        have : c ≠ a := fun z => by
          subst z
          exact S.r.sep i j s (.dc ds) (.ref c) q e f hso rfl hσ h1
        exact ⟨c, xs, rfl, by rw [upd_ne this]; exact z1, z2, z3, z4⟩
      | nil => exact h2
      | fz d => exact h2
      | ex k => exact h2
      | sc ns => exact h2
  · have g : ∀ {m : Nat} {x : Sl}, (ρ.set i t)[m]? = some x → x.own = true → ∃ y, ρ[m]? = some y ∧ y.own = true := fun {m x} z zo => by
      rcases get_set_some z with ⟨q, rfl, hl⟩ | ⟨q, f⟩
      · subst q; exact ⟨s, e, hso⟩
      · exact ⟨x, f, zo⟩
    obtain ⟨y1, b1, c1⟩ := g e1 o1
    obtain ⟨y2, b2, c2⟩ := g e2 o2
    exact S.r.sep j k y1 y2 w hjk b1 b2 c1 c2 f1 f2
/-- an owned list is frozen -/
theorem Stt.frz {i : Nat} {ds : List PyData} (S : Stt K C B H σ ρ) (e : ρ[i]? = some (.ow ds)) : ∃ B', Same B B' ∧ Stt K C B' H σ (ρ.set i (.fz (.list ds))) := by
  obtain ⟨v, h1, a, xs, rfl, z1, z2, z3, z4⟩ := S.r.at' i _ e (by intro q; cases q)
  have sb : Same B (upd B a (.lst xs)) := same_new z2
  refine ⟨upd B a (.lst xs), sb, ⟨⟨S.x.b.trans sb, S.x.h, fun c w q => ?_, fun c w q => ?_⟩, ⟨by rw [List.length_set]; exact S.r.len, fun j w f n => ?_, fun j k w1 w2 w hjk e1 e2 o1 o2 f1 f2 => ?_⟩⟩⟩
  · by_cases z : c = a
    · subst z; rw [upd_same] at q; rw [z1]; exact q
    · rw [upd_ne z] at q; exact S.x.s _ _ q
  · by_cases z : c = a
    · subst z; exact .inr (.inl z3)
    · rw [upd_ne z] at q; exact S.x.n _ _ q
  · rcases get_set_some f with ⟨q, rfl, hl⟩ | ⟨q, f⟩
    · subst q
      exact ⟨.ref a, h1, Dt.lst upd_same (z4.on sb)⟩
    · obtain ⟨v, h1', h2⟩ := S.r.at' j w f n
      refine ⟨v, h1', ?_⟩
      cases w with
      | ow ds' =>
        obtain ⟨c, ys, rfl, y1, y2, y3, y4⟩ := h2
        have : c ≠ a := fun z => by
          subst z
          exact S.r.sep i j (.ow ds) (.ow ds') (.ref c) q e f rfl rfl h1 h1'
        exact ⟨c, ys, rfl, y1, by rw [upd_ne this]; exact y2, y3, y4.on sb⟩
      | dc ds' =>
        obtain ⟨c, ys, rfl, y1, y2, y3, y4⟩ := h2
        have : c ≠ a := fun z => by
          subst z
          exact S.r.sep i j (.ow ds) (.dc ds') (.ref c) q e f rfl rfl h1 h1'
        exact ⟨c, ys, rfl, y1, by rw [upd_ne this]; exact y2, y3, y4.on sb⟩
      | nil => exact h2
      | fz d => exact Dt.on h2 sb
      | ex k => exact SlA.on (K := K) (ec := C.ec) (s := .ex k) h2 sb
      | sc ns => exact SlA.on (K := K) (ec := C.ec) (s := .sc ns) h2 sb
  · have g : ∀ {m : Nat} {x : Sl}, (ρ.set i (.fz (.list ds)))[m]? = some x → x.own = true → ρ[m]? = some x := fun {m x} z zo => by
      rcases get_set_some z with ⟨q, rfl, hl⟩ | ⟨q, f⟩
      · cases zo
      · exact f
    exact S.r.sep j k w1 w2 w hjk (g e1 o1) (g e2 o2) o1 o2 f1 f2
end

/-! ### readings -/
section
variable (K : PySem.W.Frag) (C : Cc)
/-- an error is let out -/
def pX (B H : Hp) (σ : L2.St) (k : XK) : Prop := ∀ B' H', Ext B H B' H' → C.W (.ref (C.ec k)) none σ H'
def pR {α : Type} (B H : Hp) (σ : L2.St) (P : α → Prop) : Rs α → Prop
  | .ok a => P a
  | .er k => pX C B H σ k
  | .no => False
def pE (B H : Hp) (σ : L2.St) (Q : VK) : Rs PyData → Prop := pR C B H σ fun d => ∀ v B' H', Ext B H B' H' → Dt B' v d → Q v H'
def pB (B H : Hp) (σ : L2.St) (Q : VK) : Rs Sl → Prop := pR C B H σ fun s => ∀ v B' H', Ext B H B' H' → SlV K C B' H' v s → Q v H'
def pT (B H : Hp) (σ : L2.St) (Q : Bool → Hp → Prop) : Rs Bool → Prop := pR C B H σ fun b => ∀ B' H', Ext B H B' H' → Q b H'
/-- a new list, not yet frozen -/
def pL (B H : Hp) (σ : L2.St) (Q : VK) : Rs (List PyData) → Prop := pR C B H σ fun ds => ∀ a xs B' H', Ext B H B' H' → H a = none → B' a = none → H' a = some (.lst xs) → DtAll B' xs ds → Q (.ref a) H'
def pA (B H : Hp) (σ : L2.St) (Q : List V → Hp → Prop) : Rs (List PyData) → Prop := pR C B H σ fun ds => ∀ vs B' H', Ext B H B' H' → DtAll B' vs ds → Q vs H'
def tE (f : DE) : TE := fun σ H Q => ∃ ρ B, Stt K C B H σ ρ ∧ pE C B H σ Q (f ρ)
def tBo (f : DB) : TE := fun σ H Q => ∃ ρ B, Stt K C B H σ ρ ∧ pB K C B H σ Q (f ρ)
def tT (f : DT) : TT := fun σ H Q => ∃ ρ B, Stt K C B H σ ρ ∧ pT C B H σ Q (f ρ)
def tL (f : DL) : TE := fun σ H Q => ∃ ρ B, Stt K C B H σ ρ ∧ pL C B H σ Q (f ρ)
def tA (f : DL) : TA := fun σ H Q => ∃ ρ B, Stt K C B H σ ρ ∧ pA C B H σ Q (f ρ)
end
section
variable (X : Cx) (C : Cc)
def XE (e : Expr) (f : DE) : Prop := PE X e (tE X.K C f)
def XB (e : Expr) (f : DB) : Prop := PE X e (tBo X.K C f)
def XL (e : Expr) (f : DL) : Prop := PE X e (tL X.K C f)
def XT (e : Expr) (f : DT) : Prop := PT X e (tT X.K C f)
def XW (e : Expr) (f : DT) : Prop := PW X e (tT X.K C f)
def XA (es : List Expr) (f : DL) : Prop := PA X es (tA X.K C f)
end
theorem _root_.L2.PE.imp {X : Cx} {e : Expr} {t u : TE} (h : PE X e t) (k : ∀ σ H Q, u σ H Q → t σ H Q) : PE X e u := ⟨fun pins s σ H Q I hq => h.run pins s σ H Q I (k σ H Q hq)⟩
theorem _root_.L2.PT.imp {X : Cx} {e : Expr} {t u : TT} (h : PT X e t) (k : ∀ σ H Q, u σ H Q → t σ H Q) : PT X e u := ⟨fun pins s σ H Q I hq => h.run pins s σ H Q I (k σ H Q hq)⟩
theorem _root_.L2.PW.imp {X : Cx} {e : Expr} {t u : TT} (h : PW X e t) (k : ∀ σ H Q, u σ H Q → t σ H Q) : PW X e u := ⟨fun wh pins s σ H Q I hq => h.run wh pins s σ H Q I (k σ H Q hq)⟩
theorem _root_.L2.PA.imp {X : Cx} {e : List Expr} {t u : TA} (h : PA X e t) (k : ∀ σ H Q, u σ H Q → t σ H Q) : PA X e u := ⟨fun pos pins s σ H Q I hq => h.run pos pins s σ H Q I (k σ H Q hq)⟩
theorem _root_.L2.PS.imp {X : Cx} {e : Stmt} {t u : TS} (h : PS X e t) (k : ∀ D σ H, u D σ H → t D σ H) : PS X e u := ⟨fun pins s σ H D I hq => h.run pins s σ H D I (k D σ H hq)⟩
theorem _root_.L2.PSs.imp {X : Cx} {e : List Stmt} {t u : TS} (h : PSs X e t) (k : ∀ D σ H, u D σ H → t D σ H) : PSs X e u := ⟨fun pins s σ H D I hq => h.run pins s σ H D I (k D σ H hq)⟩

section
variable {K : PySem.W.Frag} {C : Cc} {B H B' H' B1 H1 : Hp} {σ : L2.St} {ρ : Env}
theorem pX.on {k : XK} (h : pX C B H σ k) (x : Ext B H B' H') : pX C B' H' σ k := fun B2 H2 y => h B2 H2 (x.trans y)
theorem pR.on {α : Type} {P P' : α → Prop} {r : Rs α} (h : pR C B H σ P r) (x : Ext B H B' H') (k : ∀ a, P a → P' a) : pR C B' H' σ P' r := by
  cases r with
  | ok a => exact k a h
  | er k => exact pX.on h x
  | no => exact h
theorem pE.on {Q : VK} {r : Rs PyData} (h : pE C B H σ Q r) (x : Ext B H B' H') : pE C B' H' σ Q r := pR.on h x fun _ z v B2 H2 y t => z v B2 H2 (x.trans y) t
theorem pB.on {Q : VK} {r : Rs Sl} (h : pB K C B H σ Q r) (x : Ext B H B' H') : pB K C B' H' σ Q r := pR.on h x fun _ z v B2 H2 y t => z v B2 H2 (x.trans y) t
theorem pT.on {Q : Bool → Hp → Prop} {r : Rs Bool} (h : pT C B H σ Q r) (x : Ext B H B' H') : pT C B' H' σ Q r := pR.on h x fun _ z B2 H2 y => z B2 H2 (x.trans y)
theorem pA.on {Q : List V → Hp → Prop} {r : Rs (List PyData)} (h : pA C B H σ Q r) (x : Ext B H B' H') : pA C B' H' σ Q r := pR.on h x fun _ z v B2 H2 y t => z v B2 H2 (x.trans y) t
theorem pL.on {Q : VK} {r : Rs (List PyData)} (h : pL C B H σ Q r) (x : Ext B H B' H') : pL C B' H' σ Q r :=
  pR.on h x fun _ z a xs B2 H2 y n1 n2 h1 t => z a xs B2 H2 (x.trans y) (x.h.free n1) n2 h1 t
/-- one computation, then another: the second's reading goes on where the first has come to -/
theorem bindP {α β : Type} {P : α → Prop} {P' : β → Prop} {r : Rs α} {f : α → Rs β} (h : pR C B H σ P' (r.bind f)) (k : ∀ a, r = .ok a → pR C B H σ P' (f a) → P a) : pR C B H σ P r := by
  cases r with
  | ok a => exact k a rfl h
  | er k => exact h
  | no => exact h
end
end MS

/-! MsLayB: the expressions' rules. -/
namespace MS
open PySem L2 PyProof.Rows

section
variable {X : Cx} {C : Cc} {e a b c d0 : Expr} {es : List Expr} {f g h k : DE} {fb gb : DB} {t u : DT} {pos : Pos}

/-! ### names, constants -/
theorem xe_var (i : Nat) {x : Str} (hN : X.N[i]? = some x := by rfl) (hv : Vis X.env.scope x := by first | exact Or.inl rfl | exact Or.inr (Or.inl rfl) | exact Or.inr (Or.inr rfl)) (hd : (x == ("__debug__" : Str)) = false := by decide)
    (hcd : (x == ("__classdict__" : Str)) = false := by decide) : XE X C (.Name x pos) (dVar i) := (pe_var hN hv hd hcd).imp fun σ H Q ⟨ρ, B, S, h⟩ => by
  unfold dVar at h
  split at h
  · rename_i d e
    obtain ⟨v, h1, h2⟩ := S.r.at' i _ e (by intro q; cases q)
    exact ⟨v, h1, h v B H (Ext.refl S.sm) h2⟩
  · exact h.elim
theorem xb_var (i : Nat) {x : Str} (hN : X.N[i]? = some x := by rfl) (hv : Vis X.env.scope x := by first | exact Or.inl rfl | exact Or.inr (Or.inl rfl) | exact Or.inr (Or.inr rfl)) (hd : (x == ("__debug__" : Str)) = false := by decide)
    (hcd : (x == ("__classdict__" : Str)) = false := by decide) : XB X C (.Name x pos) (bVar i) := (pe_var hN hv hd hcd).imp fun σ H Q ⟨ρ, B, S, h⟩ => by
  unfold bVar at h
  split at h
  · exact h.elim
  · rename_i s n e
    obtain ⟨v, h1, h2⟩ := S.r.at' i _ e n
    exact ⟨v, h1, h v B H (Ext.refl S.sm) h2⟩
  · exact h.elim
theorem xb_of (he : XE X C e f) : XB X C e (bOf f) := PE.imp he fun σ H Q ⟨ρ, B, S, h⟩ => ⟨ρ, B, S, bindP h fun d _ h v B' H' x t => h v B' H' x t⟩
theorem xe_c {v : V} {d : PyData} (hp : PE X e (tC v)) (hd : ∀ B, Dt B v d) : XE X C e (dC d) := hp.imp fun σ H Q ⟨ρ, B, S, h⟩ => h v B H (Ext.refl S.sm) (hd B)
theorem xe_int {i : Int} {j} : XE X C (.Constant (.int i) j pos) (dC (.int i)) := xe_c pe_int fun _ => .int _
theorem xe_bl {b : Bool} {j} : XE X C (.Constant (.bool b) j pos) (dC (.bool b)) := xe_c pe_bl fun _ => .bl _
theorem xe_non {j} : XE X C (.Constant .none j pos) (dC .none) := xe_c pe_non fun _ => .non
theorem xe_str {x : Str} {j} : XE X C (.Constant (.str x) j pos) (dC (.str x)) := xe_c pe_str fun _ => .str _
theorem xe_globI {x : Str} {n : Int} (hm : ∃ t, X.mg x = some (.int n t)) (hg : Gl X x := by rfl) (hd : (x == ("__debug__" : Str)) = false := by decide) : XE X C (.Name x pos) (dC (.int n)) := by
  obtain ⟨t, q⟩ := hm
  exact xe_c (v := .int n) (pe_glob hg q ⟨t, rfl⟩ hd) fun _ => .int _
theorem xe_globS {x z : Str} (hm : ∃ t, X.mg x = some (.str z t)) (hg : Gl X x := by rfl) (hd : (x == ("__debug__" : Str)) = false := by decide) : XE X C (.Name x pos) (dC (.str z)) := by
  obtain ⟨t, q⟩ := hm
  exact xe_c (v := .str z) (pe_glob hg q ⟨t, rfl⟩ hd) fun _ => .str _
theorem xe_neg {i : Int} {j} {p2 : Pos} : XE X C (.UnaryOp .USub (.Constant (.int i) j p2) pos) (dC (.int (-i))) := (pe_un un_neg pe_int).imp fun σ H Q ⟨ρ, B, S, h⟩ => ⟨i, rfl, h _ B H (Ext.refl S.sm) (.int _)⟩

/-! ### operators -/
theorem xe_bin {o : Operator} {r : R2} {op : PyData → PyData → Rs PyData} (ho : OpR X (binaryOp o) r)
    (hr : ∀ {B H : Hp} {σ : L2.St} {v w : V} {x y : PyData} {Q : VK}, Same B H → Dt B v x → Dt B w y → pE C B H σ Q (op x y) → r v w H Q) (ha : XE X C a f) (hb : XE X C b g) : XE X C (.BinOp a o b pos) (dBin op f g) :=
  (pe_op ho ha hb).imp fun σ H Q ⟨ρ, B, S, h⟩ => ⟨ρ, B, S, bindP h fun x _ h v1 B1 H1 x1 t1 => ⟨ρ, B1, S.on x1, bindP (pE.on (Q := Q) h x1) fun y _ h v2 B2 H2 x2 t2 => hr x2.s (t1.on x2.b) t2 (pE.on (Q := Q) h x2)⟩⟩
theorem xe_add (ha : XE X C a f) (hb : XE X C b g) : XE X C (.BinOp a .Add b pos) (dBin opAdd f g) :=
  xe_bin ((op_add.or op_catA).or (op_cat.or op_add_str)) (fun {B H σ v w x y Q} sm tx ty h => by
    cases tx with
    | int i =>
      cases ty with
      | int j => exact .inl (.inl ⟨i, j, rfl, rfl, h _ B H (Ext.refl sm) (.int _)⟩)
      | _ => exact h.elim
    | @tup p xs ds h1 h2 =>
      cases ty with
      | @tup q ys es h3 h4 =>
        have h' : pE C B H σ Q (if ds.length + es.length ≤ lim then .ok (.tuple (ds ++ es)) else .no) := h
        by_cases hz : ds.length + es.length ≤ lim
        · rw [if_pos hz] at h'
          refine .inl (.inr ⟨p, q, xs, ys, rfl, rfl, SqT.of (sm _ _ h1), SqT.of (sm _ _ h3), by rw [h2.len, h4.len]; exact lim_le hz, fun e => ?_, fun _ e => ?_, fun _ _ n hn => ?_⟩)
          · subst e
            cases h2
            exact h' _ B H (Ext.refl sm) (.tup h3 h4)
          · subst e
            cases h4
            rw [List.append_nil] at h'
            exact h' _ B H (Ext.refl sm) (.tup h1 h2)
          · have x := Ext.new (o := .tup (xs ++ ys)) sm hn
            exact h' _ _ _ x (.tup upd_same ((h2.app h4).on x.b))
        · rw [if_neg hz] at h'
          exact h'.elim
      | _ => exact h.elim
    | @lst p xs ds h1 h2 =>
      cases ty with
      | @lst q ys es h3 h4 =>
        have h' : pE C B H σ Q (if ds.length + es.length ≤ lim then .ok (.list (ds ++ es)) else .no) := h
        by_cases hz : ds.length + es.length ≤ lim
        · rw [if_pos hz] at h'
          refine .inr (.inl ⟨p, q, xs, ys, rfl, rfl, sm _ _ h1, sm _ _ h3, by rw [h2.len, h4.len]; exact lim_le hz, fun n hn => ?_⟩)
          have x := Ext.new (o := .lst (xs ++ ys)) sm hn
          exact h' _ _ _ x (.lst upd_same ((h2.app h4).on x.b))
        · rw [if_neg hz] at h'
          exact h'.elim
      | _ => exact h.elim
    | str z =>
      cases ty with
      | str z2 =>
        have h' : pE C B H σ Q (if z.length + z2.length ≤ lim then .ok (.str (z ++ z2)) else .no) := h
        by_cases hz : z.length + z2.length ≤ lim
        · rw [if_pos hz] at h'
          exact .inr (.inr ⟨z, z2, rfl, rfl, lim_le hz, h' _ B H (Ext.refl sm) (.str _)⟩)
        · rw [if_neg hz] at h'
          exact h'.elim
      | _ => exact h.elim
    | _ => exact h.elim) ha hb
theorem xe_sub (ha : XE X C a f) (hb : XE X C b g) : XE X C (.BinOp a .Sub b pos) (dBin opSub f g) :=
  xe_bin op_sub (fun {B H σ v w x y Q} sm tx ty h => by
    cases tx with
    | int i =>
      cases ty with
      | int j => exact ⟨i, j, rfl, rfl, h _ B H (Ext.refl sm) (.int _)⟩
      | _ => exact h.elim
    | _ => exact h.elim) ha hb
theorem xe_mul (ha : XE X C a f) (hb : XE X C b g) : XE X C (.BinOp a .Mult b pos) (dBin opMul f g) :=
  xe_bin (op_mul.or op_rep) (fun {B H σ v w x y Q} sm tx ty h => by
    cases tx with
    | int i =>
      cases ty with
      | int j =>
        have h' : pE C B H σ Q (if (-(2 ^ 64) < i ∧ i < 2 ^ 64) ∨ (-(2 ^ 64) < j ∧ j < 2 ^ 64) then .ok (.int (i * j)) else .no) := h
        by_cases hz : (-(2 ^ 64) < i ∧ i < 2 ^ 64) ∨ (-(2 ^ 64) < j ∧ j < 2 ^ 64)
        · rw [if_pos hz] at h'
          exact .inl ⟨i, j, rfl, rfl, hz, h' _ B H (Ext.refl sm) (.int _)⟩
        · rw [if_neg hz] at h'
          exact h'.elim
      | _ => exact h.elim
    | @lst p xs ds h1 h2 =>
      cases ty with
      | int j =>
        have h' : pE C B H σ Q (if 0 ≤ j ∧ j < 2 ^ 62 ∧ ds.length * j.toNat ≤ lim then .ok (.list (List.replicate j.toNat ds).flatten) else .no) := h
        by_cases hz : 0 ≤ j ∧ j < 2 ^ 62 ∧ ds.length * j.toNat ≤ lim
        · rw [if_pos hz] at h'
          obtain ⟨z1, z2, z3⟩ := hz
          refine .inr ⟨p, j, xs, rfl, rfl, sm _ _ h1, by omega, by omega, by rw [h2.len]; exact lim_le z3, fun n hn => ?_⟩
          have x := Ext.new (o := .lst (List.replicate j.toNat xs).flatten) sm hn
          exact h' _ _ _ x (.lst upd_same ((h2.rep _).on x.b))
        · rw [if_neg hz] at h'
          exact h'.elim
      | _ => exact h.elim
    | _ => exact h.elim) ha hb
theorem xe_mod (ha : XE X C a f) (hb : XE X C b g) : XE X C (.BinOp a .Mod b pos) (dBin opMod f g) :=
  xe_bin op_mod (fun {B H σ v w x y Q} sm tx ty h => by
    cases tx with
    | int i =>
      cases ty with
      | int j =>
        have h' : pE C B H σ Q (if 0 < j then .ok (.int (i % j)) else .no) := h
        by_cases hz : 0 < j
        · rw [if_pos hz] at h'
          exact ⟨i, j, rfl, rfl, hz, h' _ B H (Ext.refl sm) (.int _)⟩
        · rw [if_neg hz] at h'
          exact h'.elim
      | _ => exact h.elim
    | _ => exact h.elim) ha hb
theorem xe_div (ha : XE X C a f) (hb : XE X C b g) : XE X C (.BinOp a .FloorDiv b pos) (dBin opDiv f g) :=
  xe_bin op_fdiv (fun {B H σ v w x y Q} sm tx ty h => by
    cases tx with
    | int i =>
      cases ty with
      | int j =>
        have h' : pE C B H σ Q (if 0 < j ∧ j < 1073741824 then .ok (.int (i / j)) else .no) := h
        by_cases hz : 0 < j ∧ j < 1073741824
        · rw [if_pos hz] at h'
          exact ⟨i, j, rfl, rfl, hz, h' _ B H (Ext.refl sm) (.int _)⟩
        · rw [if_neg hz] at h'
          exact h'.elim
      | _ => exact h.elim
    | _ => exact h.elim) ha hb

/-! ### comparisons -/
def rG (c : PyData → PyData → Rs Bool) : R2 := fun x y H Q => ∃ B d1 d2 b, Same B H ∧ Dt B x d1 ∧ Dt B y d2 ∧ c d1 d2 = .ok b ∧ Q (.bl b) H
structure CmOk (X : Cx) (o : CmpOp) (c : PyData → PyData → Rs Bool) : Prop where
  op : OpR X (compareOp o) (rG c)
  ne : ∀ x y k, c x y ≠ .er k
  mark : ∀ b, behindInMarks o b = false
theorem xe_of_dT (hp : PE X e (fun σ H Q => ∃ ρ B, Stt X.K C B H σ ρ ∧ pR C B H σ (fun b => ∀ B' H', Ext B H B' H' → Q (.bl b) H') (t ρ))) : XE X C e (dT t) := hp.imp fun σ H Q ⟨ρ, B, S, h⟩ => ⟨ρ, B, S, bindP h fun b _ h B' H' x => h (.bl b) B' H' x (.bl b)⟩
/-- two operands, then a comparison -/
theorem cmp_go {c : PyData → PyData → Rs Bool} (ne : ∀ x y k, c x y ≠ .er k) {K : PySem.W.Frag} {σ : L2.St} {H B : Hp} {ρ : Env} {Q : VK} (S : Stt K C B H σ ρ)
    (h : pR C B H σ (fun b => ∀ B' H', Ext B H B' H' → Q (.bl b) H') (tCmp c f g ρ)) : tOp (rG c) (tE K C f) (tE K C g) σ H Q :=
  ⟨ρ, B, S, bindP h fun x _ h v1 B1 H1 x1 t1 => ⟨ρ, B1, S.on x1, bindP (pR.on (P' := fun b => ∀ B' H', Ext B1 H1 B' H' → Q (.bl b) H') h x1 fun _ z B' H' y => z B' H' (x1.trans y)) fun y _ h v2 B2 H2 x2 t2 => by
    cases q : c x y with
    | ok b =>
      rw [q] at h
      exact ⟨B2, x, y, b, x2.s, t1.on x2.b, t2, q, h B2 H2 x2⟩
    | er k => exact absurd q (ne x y k)
    | no => rw [q] at h; exact h.elim⟩⟩
theorem xe_cmp {o : CmpOp} {c : PyData → PyData → Rs Bool} (ho : CmOk X o c) (ha : XE X C a f) (hb : XE X C b g) : XE X C (.Compare a [o] [b] pos) (dT (tCmp c f g)) :=
  xe_of_dT ((pe_cmpR ho.op ha hb (ho.mark b)).imp fun σ H Q ⟨ρ, B, S, h⟩ => cmp_go ho.ne S h)
theorem xt_cmp {o : CmpOp} {c : PyData → PyData → Rs Bool} (ho : CmOk X o c) (ha : XE X C a f) (hb : XE X C b g) : XT X C (.Compare a [o] [b] pos) (tCmp c f g) :=
  (pt_cmpR ho.op ha hb (ho.mark b)).imp fun σ H Q ⟨ρ, B, S, h⟩ => cmp_go ho.ne S (Q := fun x H' => ∃ k, x = .bl k ∧ Q k H') (pR.on h (Ext.refl S.sm) fun b z B' H' x => ⟨b, rfl, z B' H' x⟩)
theorem if_ok {α : Type} {p : Prop} [Decidable p] {x y : α} (h : (if p then Rs.ok x else .no) = .ok y) : p ∧ x = y := by
  by_cases q : p
  · rw [if_pos q] at h; exact ⟨q, by injection h⟩
  · rw [if_neg q] at h; cases h
theorem if_ne {α : Type} {p : Prop} [Decidable p] {x : α} {k : XK} : (if p then Rs.ok x else .no) ≠ .er k := by
  intro h
  by_cases q : p
  · rw [if_pos q] at h; cases h
  · rw [if_neg q] at h; cases h
theorem cm_eq {n : Nat} (hr : Room n X.A) : CmOk X .Eq cEq where
  op := fun pins s σ H x y v u Q I rx ry ⟨B, d1, d2, b, sm, t1, t2, q, hq⟩ => by
    obtain ⟨⟨q1, q2⟩, q3⟩ := if_ok q
    exact op_eqD hr.units pins s σ H x y v u Q I rx ry ⟨d1, d2, (t1.on sm).dp, (t2.on sm).dp, q1, q2, by rw [q3]; exact hq⟩
  ne := fun x y k => if_ne
  mark := fun b => nomark b
theorem cm_ne {n : Nat} (hr : Room n X.A) : CmOk X .NotEq cNe where
  op := fun pins s σ H x y v u Q I rx ry ⟨B, d1, d2, b, sm, t1, t2, q, hq⟩ => by
    obtain ⟨⟨q1, q2⟩, q3⟩ := if_ok q
    exact op_neD hr.units pins s σ H x y v u Q I rx ry ⟨d1, d2, (t1.on sm).dp, (t2.on sm).dp, q1, q2, by rw [q3]; exact hq⟩
  ne := fun x y k => if_ne
  mark := fun b => nomark b
theorem lexLt_eq : ∀ xs ys : List Int, lexLt xs ys = HT.lexLt xs ys
  | [], [] => rfl
  | [], _ :: _ => rfl
  | _ :: _, [] => rfl
  | x :: xs, y :: ys => by
    show (if x = y then lexLt xs ys else decide (x < y)) = if x = y then HT.lexLt xs ys else decide (x < y)
    rw [lexLt_eq xs ys]
theorem cm_lt {n : Nat} (hr : Room n X.A) : CmOk X .Lt cLt where
  op := fun pins s σ H x y v u Q I rx ry ⟨B, d1, d2, b, sm, t1, t2, q, hq⟩ => by
    refine (op_lt.or (op_ltT hr.units0)) pins s σ H x y v u Q I rx ry ?_
    cases t1 with
    | int i =>
      cases t2 with
      | int j =>
        have e : decide (i < j) = b := by injection q
        exact .inl ⟨i, j, rfl, rfl, by show Q (V.bl (decide (i < j))) H; rw [e]; exact hq⟩
      | _ => cases q
    | @tup p xs ds h1 h2 =>
      cases t2 with
      | @tup p2 ys es h3 h4 =>
        cases e1 : intsOf ds with
        | none => simp [cLt, e1] at q
        | some ns =>
          cases e2 : intsOf es with
          | none => simp [cLt, e1, e2] at q
          | some ms =>
            simp only [cLt, e1, e2] at q
            have e : lexLt ns ms = b := by injection q
            have a1 := h2.ints e1
            have a2 := h4.ints e2
            subst a1 a2
            exact .inr ⟨p, p2, ns, ms, rfl, rfl, SqT.of (sm _ _ h1), SqT.of (sm _ _ h3), by rw [← lexLt_eq, e]; exact hq⟩
      | _ => cases q
    | _ => cases q
  ne := fun x y k => by
    intro h
    unfold cLt at h
    split at h
    · cases h
    · split at h <;> cases h
    · cases h
  mark := fun b => nomark b
theorem cm_int {o : CmpOp} {p : Int → Int → Bool} {c : PyData → PyData → Rs Bool} (ho : OpR X (compareOp o) (rI0 fun i j => .bl (p i j))) (hc : ∀ x y b, c x y = .ok b → ∃ i j, x = .int i ∧ y = .int j ∧ p i j = b) (ne : ∀ x y k, c x y ≠ .er k) (mk : ∀ b, behindInMarks o b = false) : CmOk X o c where
  op := fun pins s σ H x y v u Q I rx ry ⟨B, d1, d2, b, sm, t1, t2, q, hq⟩ => by
    obtain ⟨i, j, rfl, rfl, e⟩ := hc _ _ _ q
    cases t1
    cases t2
    exact ho pins s σ H _ _ v u Q I rx ry ⟨i, j, rfl, rfl, by show Q (V.bl (p i j)) H; rw [e]; exact hq⟩
  ne := ne
  mark := mk
theorem cm_le : CmOk X .LtE cLe := cm_int (p := fun i j => decide (i ≤ j)) op_le (fun x y b h => by
    unfold cLe at h
    split at h
    · exact ⟨_, _, rfl, rfl, by injection h⟩
    · cases h) (fun x y k h => by unfold cLe at h; split at h <;> cases h) (fun b => nomark b)
theorem cm_gt : CmOk X .Gt cGt := cm_int (p := fun i j => decide (j < i)) op_gt (fun x y b h => by
    unfold cGt at h
    split at h
    · exact ⟨_, _, rfl, rfl, by injection h⟩
    · cases h) (fun x y k h => by unfold cGt at h; split at h <;> cases h) (fun b => nomark b)
theorem cm_ge : CmOk X .GtE cGe := cm_int (p := fun i j => decide (j ≤ i)) op_ge (fun x y b h => by
    unfold cGe at h
    split at h
    · exact ⟨_, _, rfl, rfl, by injection h⟩
    · cases h) (fun x y k h => by unfold cGe at h; split at h <;> cases h) (fun b => nomark b)

/-! chains -/
theorem chain_go {c1 c2 : PyData → PyData → Rs Bool} (ne1 : ∀ x y k, c1 x y ≠ .er k) (ne2 : ∀ x y k, c2 x y ≠ .er k) {K : PySem.W.Frag} {σ : L2.St} {H B : Hp} {ρ : Env} {Q : VK} (S : Stt K C B H σ ρ)
    (hh : pR C B H σ (fun b => ∀ B' H', Ext B H B' H' → Q (.bl b) H') (tCh c1 c2 f g h ρ)) : tChain (rG c1) (rG c2) (tE K C f) (tE K C g) (tE K C h) σ H Q :=
  ⟨ρ, B, S, bindP hh fun x _ h1 v1 B1 H1 x1 t1 => ⟨ρ, B1, S.on x1, bindP (pR.on (P' := fun b => ∀ B' H', Ext B1 H1 B' H' → Q (.bl b) H') h1 x1 fun _ z B' H' y => z B' H' (x1.trans y)) fun y _ h2 v2 B2 H2 x2 t2 => by
    cases q : c1 x y with
    | ok b =>
      refine ⟨B2, x, y, b, x2.s, t1.on x2.b, t2, q, b, rfl, ?_⟩
      rw [q] at h2
      cases b with
      | false =>
        show Q (.bl false) H2
        exact h2 B2 H2 x2
      | true =>
        show tE K C h σ H2 _
        refine ⟨ρ, B2, (S.on x1).on x2, bindP (pR.on (P' := fun b => ∀ B' H', Ext B2 H2 B' H' → Q (.bl b) H') h2 x2 fun _ z B' H' y => z B' H' (x2.trans y)) fun z _ h3 v3 B3 H3 x3 t3 => ?_⟩
        cases q2 : c2 y z with
        | ok b2 =>
          rw [q2] at h3
          exact ⟨B3, y, z, b2, x3.s, t2.on x3.b, t3, q2, h3 B3 H3 x3⟩
        | er k => exact absurd q2 (ne2 y z k)
        | no => rw [q2] at h3; exact h3.elim
    | er k => exact absurd q (ne1 x y k)
    | no => rw [q] at h2; exact h2.elim⟩⟩
theorem xe_ch {o1 o2 : CmpOp} {c1 c2 : PyData → PyData → Rs Bool} (h1 : CmOk X o1 c1) (h2 : CmOk X o2 c2) (ha : XE X C a f) (hb : XE X C b g) (hc : XE X C c h) (hm : lastMarks [o1, o2] [b, c] = false := by with_unfolding_all rfl) : XE X C (.Compare a [o1, o2] [b, c] pos) (dT (tCh c1 c2 f g h)) :=
  xe_of_dT ((pe_chain h1.op h2.op ha hb hc hm).imp fun σ H Q ⟨ρ, B, S, h⟩ => chain_go h1.ne h2.ne S h)
theorem xt_ch {o1 o2 : CmpOp} {c1 c2 : PyData → PyData → Rs Bool} (h1 : CmOk X o1 c1) (h2 : CmOk X o2 c2) (ha : XE X C a f) (hb : XE X C b g) (hc : XE X C c h) (hm : lastMarks [o1, o2] [b, c] = false := by with_unfolding_all rfl) : XT X C (.Compare a [o1, o2] [b, c] pos) (tCh c1 c2 f g h) :=
  (pt_chain h1.op h2.op ha hb hc hm).imp fun σ H Q ⟨ρ, B, S, h⟩ => chain_go h1.ne h2.ne S (Q := fun x H' => ∃ k, x = .bl k ∧ Q k H') (pR.on h (Ext.refl S.sm) fun b z B' H' x => ⟨b, rfl, z B' H' x⟩)
/-- a op1 b op2 c op3 d -/
def tChain3 (r r' r'' : R2) (ta tb tc td : TE) : TE := fun σ H Q => ta σ H fun x H1 => tb σ H1 fun y H2 => r x y H2 fun z H3 => ∃ k, z = .bl k ∧
  (if k = true then tc σ H3 fun w' H4 => r' y w' H4 fun z H5 => ∃ k, z = .bl k ∧ (if k = true then td σ H5 fun w2 H6 => r'' w' w2 H6 Q else Q (.bl false) H5) else Q (.bl false) H3)
theorem pt_chain3 {op op' op'' : CmpOp} {r r' r'' : R2} {ta tb tc td : TE} (ho : OpR X (compareOp op) r) (ho' : OpR X (compareOp op') r') (ho'' : OpR X (compareOp op'') r'') (ha : PE X a ta) (hb : PE X b tb) (hc : PE X c tc) (hd : PE X d0 td)
    (hm : lastMarks [op, op', op''] [b, c, d0] = false := by with_unfolding_all rfl) : PT X (.Compare a [op, op', op''] [b, c, d0] pos) (tTest (tChain3 r r' r'' ta tb tc td)) := by
  refine ⟨fun pins s σ H Q I h => ?_⟩
  refine isTrue_chain (thn (ha.run pins s σ H _ I h) fun v s1 ⟨x, H1, I1, r1, q1⟩ => test_link (thn (hb.run pins s1 σ H1 _ I1 q1) fun u s2 ⟨y, H2, I2, r2, q2⟩ =>
    thn (ho pins s2 σ H2 x y v u _ I2 r1 r2 q2) fun d s3 ⟨z, H3, I3, r3, k, e, q3⟩ => ?_)) hm
  subst e
  cases r3
  refine wpAny_truthy_bool ?_
  cases k with
  | false =>
    obtain ⟨k', e', q'⟩ := q3
    cases e'
    exact ite_ff ⟨H3, I3, q'⟩
  | true =>
    refine ite_tt (test_link (thn (hc.run pins s3 σ H3 _ I3 q3) fun w' s4 ⟨z', H4, I4, r4, q4⟩ => thn (ho' pins s4 σ H4 y z' u w' _ I4 r2 r4 q4) fun d s5 ⟨z, H5, I5, r5, k, e, q5⟩ => ?_))
    subst e
    cases r5
    refine wpAny_truthy_bool ?_
    cases k with
    | false =>
      obtain ⟨k', e', q'⟩ := q5
      cases e'
      exact ite_ff ⟨H5, I5, q'⟩
    | true =>
      refine ite_tt (test_last (thn (hd.run pins s5 σ H5 _ I5 q5) fun w2 s6 ⟨z2, H6, I6, r6, q6⟩ => thn (ho'' pins s6 σ H6 z' z2 w' w2 _ I6 r4 r6 q6) fun d s7 ⟨z, H7, I7, r7, k, e, q7⟩ => ?_))
      subst e
      cases r7
      exact wpAny_truthy_bool ⟨H7, I7, q7⟩
theorem chain3_go {c1 c2 c3 : PyData → PyData → Rs Bool} (ne1 : ∀ x y k, c1 x y ≠ .er k) (ne2 : ∀ x y k, c2 x y ≠ .er k) (ne3 : ∀ x y k, c3 x y ≠ .er k) {K : PySem.W.Frag} {σ : L2.St} {H B : Hp} {ρ : Env} {Q : VK} (S : Stt K C B H σ ρ)
    (hh : pR C B H σ (fun b => ∀ B' H', Ext B H B' H' → Q (.bl b) H') (tCh3 c1 c2 c3 f g h k ρ)) : tChain3 (rG c1) (rG c2) (rG c3) (tE K C f) (tE K C g) (tE K C h) (tE K C k) σ H Q :=
  ⟨ρ, B, S, bindP hh fun x _ h1 v1 B1 H1 x1 t1 => ⟨ρ, B1, S.on x1, bindP (pR.on (P' := fun b => ∀ B' H', Ext B1 H1 B' H' → Q (.bl b) H') h1 x1 fun _ z B' H' y => z B' H' (x1.trans y)) fun y _ h2 v2 B2 H2 x2 t2 => by
    cases q : c1 x y with
    | ok b =>
      refine ⟨B2, x, y, b, x2.s, t1.on x2.b, t2, q, b, rfl, ?_⟩
      rw [q] at h2
      cases b with
      | false =>
        show Q (.bl false) H2
        exact h2 B2 H2 x2
      | true =>
        show tE K C h σ H2 _
        refine ⟨ρ, B2, (S.on x1).on x2, bindP (pR.on (P' := fun b => ∀ B' H', Ext B2 H2 B' H' → Q (.bl b) H') h2 x2 fun _ z B' H' y => z B' H' (x2.trans y)) fun z _ h3 v3 B3 H3 x3 t3 => ?_⟩
        cases q2 : c2 y z with
        | ok b2 =>
          refine ⟨B3, y, z, b2, x3.s, t2.on x3.b, t3, q2, b2, rfl, ?_⟩
          rw [q2] at h3
          cases b2 with
          | false =>
            show Q (.bl false) H3
            exact h3 B3 H3 x3
          | true =>
            show tE K C k σ H3 _
            refine ⟨ρ, B3, ((S.on x1).on x2).on x3, bindP (pR.on (P' := fun b => ∀ B' H', Ext B3 H3 B' H' → Q (.bl b) H') h3 x3 fun _ z B' H' y => z B' H' (x3.trans y)) fun w _ h4 v4 B4 H4 x4 t4 => ?_⟩
            cases q3 : c3 z w with
            | ok b3 =>
              rw [q3] at h4
              exact ⟨B4, z, w, b3, x4.s, t3.on x4.b, t4, q3, h4 B4 H4 x4⟩
            | er k => exact absurd q3 (ne3 z w k)
            | no => rw [q3] at h4; exact h4.elim
        | er k => exact absurd q2 (ne2 y z k)
        | no => rw [q2] at h3; exact h3.elim
    | er k => exact absurd q (ne1 x y k)
    | no => rw [q] at h2; exact h2.elim⟩⟩
theorem xt_ch3 {o1 o2 o3 : CmpOp} {c1 c2 c3 : PyData → PyData → Rs Bool} (h1 : CmOk X o1 c1) (h2 : CmOk X o2 c2) (h3 : CmOk X o3 c3) (ha : XE X C a f) (hb : XE X C b g) (hc : XE X C c h) (hd : XE X C d0 k) (hm : lastMarks [o1, o2, o3] [b, c, d0] = false := by with_unfolding_all rfl) : XT X C (.Compare a [o1, o2, o3] [b, c, d0] pos) (tCh3 c1 c2 c3 f g h k) :=
  (pt_chain3 h1.op h2.op h3.op ha hb hc hd hm).imp fun σ H Q ⟨ρ, B, S, h⟩ => chain3_go h1.ne h2.ne h3.ne S (Q := fun x H' => ∃ k, x = .bl k ∧ Q k H') (pR.on h (Ext.refl S.sm) fun b z B' H' x => ⟨b, rfl, z B' H' x⟩)
end
end MS

/-! MsLayC: in, is None, and, or, not, displays, subscripts, slices. -/
namespace MS
open PySem L2 PyProof.Rows

theorem Dt.flat {B : Hp} {v : V} {d : PyData} (h : Dt B v d) (f : flatD d = true) : flatV v = true := by
  cases h with
  | non => rfl
  | bl _ => rfl
  | int _ => rfl
  | str _ => rfl
  | lst _ _ => cases f
  | tup _ _ => cases f
theorem Dt.eqF {B : Hp} {v w : V} {d e : PyData} (h : Dt B v d) (h' : Dt B w e) (f : flatD d = true) (f' : flatD e = true) : eqV v w = PyData.eqv d e := by
  cases h with
  | lst _ _ => cases f
  | tup _ _ => cases f
  | non =>
    cases h' with
    | lst _ _ => cases f'
    | tup _ _ => cases f'
    | _ => simp [eqV, PyData.eqv]
  | bl _ =>
    cases h' with
    | lst _ _ => cases f'
    | tup _ _ => cases f'
    | _ => simp [eqV, PyData.eqv]
  | int _ =>
    cases h' with
    | lst _ _ => cases f'
    | tup _ _ => cases f'
    | _ => simp [eqV, PyData.eqv]
  | str _ =>
    cases h' with
    | lst _ _ => cases f'
    | tup _ _ => cases f'
    | _ => simp [eqV, PyData.eqv]
theorem DtAll.inV {B : Hp} {w : V} {e : PyData} (h' : Dt B w e) (f' : flatD e = true) : ∀ {vs : List V} {ds : List PyData}, DtAll B vs ds → ds.all flatD = true → vs.all flatV = true ∧ L2.inV w vs = inAny e ds
  | _, [], h, _ => by cases h; exact ⟨rfl, rfl⟩
  | _, d :: ds, h, f => by
    cases h with
    | @cons v vs _ _ h1 h2 =>
      rw [List.all_cons, Bool.and_eq_true] at f
      obtain ⟨a1, a2⟩ := DtAll.inV h' f' h2 f.2
      refine ⟨by rw [List.all_cons, h1.flat f.1, a1] <;> rfl, ?_⟩
      have a3 : (vs.any fun y => eqV y w) = ds.any fun z => PyData.eqv z e := a2
      show ((v :: vs).any fun y => eqV y w) = (d :: ds).any fun z => PyData.eqv z e
      rw [List.any_cons, List.any_cons, h1.eqF h' f.1 f', a3]
theorem map_inl {a b : List Int} (h : a.map (Sum.inl : Int → Key) = b.map Sum.inl) : a = b := List.map_inj_right (fun _ _ h => Sum.inl.inj h) |>.mp h
theorem kV_inl (ns : List Int) : (ns.map (Sum.inl : Int → Key)).map kV = ns.map V.int := by
  rw [List.map_map]; rfl
theorem KvT.get {B : Hp} {ks : List (List Key × V)} {kvs : List (List Int × PyData)} (h : KvT B ks kvs) (ns : List Int) : (match getT kvs ns with | some d => ∃ v, valV ks (ns.map Sum.inl) = some v ∧ Dt B v d | none => valV ks (ns.map Sum.inl) = none) ∧ (kvs.any fun p => decide (p.1 = ns)) = (valV ks (ns.map Sum.inl)).isSome := by
  induction h with
  | nil => exact ⟨rfl, rfl⟩
  | @cons p q ks kvs r t ih =>
    obtain ⟨k, v⟩ := p
    obtain ⟨ms, d⟩ := q
    obtain ⟨r1, r2⟩ := r
    dsimp only at r1 r2
    subst r1
    by_cases e : ms = ns
    · subst e
      have e1 : getT ((ms, d) :: kvs) ms = some d := by show (if ms = ms then some d else _) = _; rw [if_pos rfl]
      have e2 : valV ((ms.map Sum.inl, v) :: ks) (ms.map Sum.inl) = some v := by simp [valV]
      rw [e1, e2]
      exact ⟨⟨v, rfl, r2⟩, by simp⟩
    · have e1 : getT ((ms, d) :: kvs) ns = getT kvs ns := by show (if ms = ns then some d else _) = _; rw [if_neg e]
      have e2 : valV ((ms.map Sum.inl, v) :: ks) (ns.map Sum.inl) = valV ks (ns.map Sum.inl) := by
        have : ¬ ms.map (Sum.inl : Int → Key) = ns.map Sum.inl := fun q => e (map_inl q)
        simp [valV, this]
      rw [e1, e2]
      exact ⟨ih.1, by rw [List.any_cons, ih.2]; simp [e]⟩
theorem str1 {s : Str} {c : Nat} (h : s.cps.toList = [c]) : s = ⟨#[c]⟩ := by
  obtain ⟨⟨l⟩⟩ := s
  simp at h
  subst h
  rfl

section
variable {X : Cx} {C : Cc} {e a b c d0 : Expr} {es : List Expr} {f g h k : DE} {fb gb : DB} {t u : DT} {l : DL} {pos : Pos}

/-! ### in -/
def rGs (K : PySem.W.Frag) (C : Cc) (c : PyData → Sl → Rs Bool) : R2 := fun x y H Q => ∃ B d s b, Same B H ∧ Dt B x d ∧ SlV K C B H y s ∧ c d s = .ok b ∧ Q (.bl b) H
theorem cIn_ne (x : PyData) (s : Sl) (k : XK) : cIn x s ≠ .er k := by
  intro h
  unfold cIn at h
  repeat (split at h)
  all_goals first
    | cases h
    | (split at h <;> cases h)
    | (split at h <;> first | cases h | (split at h <;> cases h))
theorem in_of {n : Nat} (hr : Room n X.A) (neg : Bool) (o : CmpOp) (ho : (neg = false ∧ o = .In) ∨ (neg = true ∧ o = .NotIn)) : ∀ (pins : List (Addr × Obj)) (s : Shared) (σ : L2.St) (H : Hp) (x y : V) (v u : Value) (Q : VK), Inv X pins σ H s → RelV x v → RelV y u →
    (∃ B d sl b, Same B H ∧ Dt B x d ∧ SlV X.K C B H y sl ∧ cIn d sl = .ok b ∧ Q (.bl (if neg then !b else b)) H) → wpAny (model X.prog X.w) X.A (compareOp o v u) (EP X pins σ Q) X.xe s := by
  intro pins s σ H x y v u Q I rx ry ⟨B, d, sl, b, sm, tx, ty, q, hq⟩
  have hu65 : X.A.units + 65 < cLine := by have := hr.un; omega
  have inList : ∀ {xs : List V} {ds : List PyData} {p : Addr}, y = .ref p → H p = some (.lst xs) → DtAll B xs ds → SeqAt.shaped d = true → SeqAt.shaped (.list ds) = true → inAny d ds = b → wpAny (model X.prog X.w) X.A (compareOp o v u) (EP X pins σ Q) X.xe s := by
    intro xs ds p ep hp hd s1 s2 hb
    subst ep
    have dy : Dp X.K H (.ref p) (.list ds) := .lst (SqL.of hp) ((hd.on sm).dp ds)
    rcases ho with ⟨rfl, rfl⟩ | ⟨rfl, rfl⟩
    · refine op_inD hu65 pins s σ H x (.ref p) v u Q I rx ry ⟨d, ds, (tx.on sm).dp, dy, s1, s2, ?_⟩
      show Q (.bl (inAny d ds)) H
      rw [hb]; exact hq
    · refine op_notInD hu65 pins s σ H x (.ref p) v u Q I rx ry ⟨d, ds, (tx.on sm).dp, dy, s1, s2, ?_⟩
      show Q (.bl (!inAny d ds)) H
      rw [hb]; exact hq
  cases sl with
  | nil => exact ty.elim
  | ex k => cases q
  | sc ns => cases q
  | ow ds =>
    obtain ⟨p, xs, ep, z1, z2, z3, z4⟩ := ty
    obtain ⟨⟨s1, s2⟩, hb⟩ := if_ok (show (if SeqAt.shaped d = true ∧ SeqAt.shaped (.list ds) = true then Rs.ok (inAny d ds) else .no) = .ok b from q)
    exact inList ep z1 z4 s1 s2 hb
  | dc kvs =>
    obtain ⟨p, ks, ep, z1, z2, z3, z4⟩ := ty
    subst ep
    cases d with
    | tuple ds =>
      cases e1 : intsOf ds with
      | none => simp [cIn, e1] at q
      | some ns =>
        simp only [cIn, e1] at q
        have hb : (kvs.any fun p => decide (p.1 = ns)) = b := by injection q
        cases tx with
        | @tup p2 xs _ h1 h2 =>
          have a1 := h2.ints e1
          subst a1
          have hk : H p2 = some (.tup ((ns.map (Sum.inl : Int → Key)).map kV)) := by rw [kV_inl]; exact sm _ _ h1
          have gg := DGet.t (k := ns.map Sum.inl) z1 hk
          have hv := (z4.get ns).2
          rw [hb] at hv
          obtain rfl : u = Value.ref p := ry
          rcases ho with ⟨rfl, rfl⟩ | ⟨rfl, rfl⟩
          · exact d_in (hu_of hr) I gg rx fun s3 I3 => ⟨.bl b, H, I3, by show Value.bool _ = _; rw [← hv], hq⟩
          · exact d_notIn (hu_of hr) I gg rx fun s3 I3 => ⟨.bl (!b), H, I3, by show Value.bool _ = _; rw [← hv], hq⟩
    | _ => cases q
  | fz dy =>
    have ty' : Dt B y dy := ty
    cases ty' with
    | non => cases q
    | bl _ => cases q
    | int _ => cases q
    | str z =>
      cases d with
      | str z0 =>
        cases e1 : z0.cps.toList with
        | nil => simp [cIn, e1] at q
        | cons c r =>
          cases r with
          | cons _ _ => simp [cIn, e1] at q
          | nil =>
            simp only [cIn, e1] at q
            have hb : decide (c ∈ z.cps.toList) = b := by injection q
            cases tx
            have := str1 e1
            subst this
            rcases ho with ⟨rfl, rfl⟩ | ⟨rfl, rfl⟩
            · exact op_in_sign pins s σ H _ _ v u Q I rx ry ⟨c, z, rfl, rfl, by rw [hb]; exact hq⟩
            · exact op_notIn_sign pins s σ H _ _ v u Q I rx ry ⟨c, z, rfl, rfl, by rw [hb]; exact hq⟩
      | _ => cases q
    | @lst p xs ds h1 h2 =>
      obtain ⟨⟨s1, s2⟩, hb⟩ := if_ok (show (if SeqAt.shaped d = true ∧ SeqAt.shaped (.list ds) = true then Rs.ok (inAny d ds) else .no) = .ok b from q)
      exact inList rfl (sm _ _ h1) h2 s1 s2 hb
    | @tup p xs ds h1 h2 =>
      obtain ⟨⟨s1, s2⟩, hb⟩ := if_ok (show (if flatD d = true ∧ ds.all flatD = true then Rs.ok (inAny d ds) else .no) = .ok b from q)
      obtain ⟨a1, a2⟩ := DtAll.inV tx s1 h2 s2
      rcases ho with ⟨rfl, rfl⟩ | ⟨rfl, rfl⟩
      · refine op_in_seq pins s σ H _ _ v u Q I rx ry ⟨p, xs, rfl, .inr (SqT.of (sm _ _ h1)), tx.flat s1, a1, ?_⟩
        rw [a2, hb]; exact hq
      · refine op_notIn_seq pins s σ H _ _ v u Q I rx ry ⟨p, xs, rfl, .inr (SqT.of (sm _ _ h1)), tx.flat s1, a1, ?_⟩
        rw [a2, hb]; exact hq
def cNin (x : PyData) (s : Sl) : Rs Bool := (cIn x s).bind fun k => .ok (!k)
theorem or_in {n : Nat} (hr : Room n X.A) : OpR X (compareOp .In) (rGs X.K C cIn) := fun pins s σ H x y v u Q I rx ry h => in_of (C := C) hr false .In (.inl ⟨rfl, rfl⟩) pins s σ H x y v u Q I rx ry h
theorem or_nin {n : Nat} (hr : Room n X.A) : OpR X (compareOp .NotIn) (rGs X.K C cNin) := fun pins s σ H x y v u Q I rx ry ⟨B, d, sl, b, sm, tx, ty, q, hq⟩ => by
  unfold cNin at q
  cases e : cIn d sl with
  | ok b2 =>
    rw [e] at q
    have e2 : (!b2) = b := by injection q
    exact in_of (C := C) hr true .NotIn (.inr ⟨rfl, rfl⟩) pins s σ H x y v u Q I rx ry ⟨B, d, sl, b2, sm, tx, ty, e, by rw [if_pos rfl, e2]; exact hq⟩
  | er k => rw [e] at q; cases q
  | no => rw [e] at q; cases q
theorem cNin_ne (x : PyData) (s : Sl) (k : XK) : cNin x s ≠ .er k := by
  unfold cNin
  intro h
  cases e : cIn x s with
  | ok b2 => rw [e] at h; cases h
  | er k => exact cIn_ne _ _ _ e
  | no => rw [e] at h; cases h
theorem in_go {c : PyData → Sl → Rs Bool} (ne : ∀ x y k, c x y ≠ .er k) {K : PySem.W.Frag} {σ : L2.St} {H B : Hp} {ρ : Env} {Q : VK} (S : Stt K C B H σ ρ)
    (h : pR C B H σ (fun b => ∀ B' H', Ext B H B' H' → Q (.bl b) H') ((f ρ).bind fun x => (gb ρ).bind fun s => c x s)) : tOp (rGs K C c) (tE K C f) (tBo K C gb) σ H Q :=
  ⟨ρ, B, S, bindP h fun x _ h v1 B1 H1 x1 t1 => ⟨ρ, B1, S.on x1, bindP (pR.on (P' := fun b => ∀ B' H', Ext B1 H1 B' H' → Q (.bl b) H') h x1 fun _ z B' H' y => z B' H' (x1.trans y)) fun y _ h v2 B2 H2 x2 t2 => by
    cases q : c x y with
    | ok b =>
      rw [q] at h
      exact ⟨B2, x, y, b, x2.s, t1.on x2.b, t2, q, h B2 H2 x2⟩
    | er k => exact absurd q (ne x y k)
    | no => rw [q] at h; exact h.elim⟩⟩
theorem xe_cin {n : Nat} (hr : Room n X.A) (ha : XE X C a f) (hb : XB X C b gb) (hm : behindInMarks .In b = false) : XE X C (.Compare a [.In] [b] pos) (dT (tIn f gb)) :=
  xe_of_dT ((pe_cmpR (or_in hr) ha hb hm).imp fun σ H Q ⟨ρ, B, S, h⟩ => in_go cIn_ne S h)
theorem xt_cin {n : Nat} (hr : Room n X.A) (ha : XE X C a f) (hb : XB X C b gb) (hm : behindInMarks .In b = false) : XT X C (.Compare a [.In] [b] pos) (tIn f gb) :=
  (pt_cmpR (or_in hr) ha hb hm).imp fun σ H Q ⟨ρ, B, S, h⟩ => in_go cIn_ne S (Q := fun x H' => ∃ k, x = .bl k ∧ Q k H') (pR.on h (Ext.refl S.sm) fun b z B' H' x => ⟨b, rfl, z B' H' x⟩)
theorem xe_cnin {n : Nat} (hr : Room n X.A) (ha : XE X C a f) (hb : XB X C b gb) (hm : behindInMarks .NotIn b = false) : XE X C (.Compare a [.NotIn] [b] pos) (dT (tNin f gb)) :=
  xe_of_dT ((pe_cmpR (or_nin hr) ha hb hm).imp fun σ H Q ⟨ρ, B, S, h⟩ => in_go cNin_ne S h)
theorem xt_cnin {n : Nat} (hr : Room n X.A) (ha : XE X C a f) (hb : XB X C b gb) (hm : behindInMarks .NotIn b = false) : XT X C (.Compare a [.NotIn] [b] pos) (tNin f gb) :=
  (pt_cmpR (or_nin hr) ha hb hm).imp fun σ H Q ⟨ρ, B, S, h⟩ => in_go cNin_ne S (Q := fun x H' => ∃ k, x = .bl k ∧ Q k H') (pR.on h (Ext.refl S.sm) fun b z B' H' x => ⟨b, rfl, z B' H' x⟩)

/-! ### is None -/
theorem isN_of {K : PySem.W.Frag} {B H : Hp} {v : V} {s : Sl} {b : Bool} (h : SlV K C B H v s) (q : isN s = .ok b) : decide (v = .non) = b := by
  cases s with
  | fz d =>
    have h' : Dt B v d := h
    cases h' with
    | non => have q' : true = b := by injection q
             exact q'
    | _ => have q' : false = b := by injection q
           exact q'
  | ex k =>
    obtain ⟨a, rfl, _⟩ := h
    have q' : false = b := by injection q
    subst q'
    rfl
  | _ => cases q
theorem isN_ne (s : Sl) (k : XK) : isN s ≠ .er k := by cases s <;> (intro h; cases h)
theorem isn_go {K : PySem.W.Frag} {σ : L2.St} {H B : Hp} {ρ : Env} {Q : VK} (neg : Bool) (S : Stt K C B H σ ρ)
    (h : pR C B H σ (fun b => ∀ B' H', Ext B H B' H' → Q (.bl (if neg then !b else b)) H') ((fb ρ).bind isN)) : tBo K C fb σ H fun x H1 => Q (.bl (if neg then !decide (x = .non) else decide (x = .non))) H1 :=
  ⟨ρ, B, S, bindP h fun s _ h v1 B1 H1 x1 t1 => by
    cases q : isN s with
    | ok b =>
      rw [q] at h
      rw [isN_of t1 q]
      exact h B1 H1 x1
    | er k => exact absurd q (isN_ne s k)
    | no => rw [q] at h; exact h.elim⟩
theorem pe_isN {a : Expr} {ta : TE} {j} {p2 : Pos} (ha : PE X a ta) : PE X (.Compare a [.Is] [.Constant .none j p2] pos) (L2.tIsN ta) := pe_cmp (pc_isN ha) rfl
theorem pe_notN {a : Expr} {ta : TE} {j} {p2 : Pos} (ha : PE X a ta) : PE X (.Compare a [.IsNot] [.Constant .none j p2] pos) (L2.tNotN ta) := pe_cmp (pc_notN ha) rfl
theorem xe_cisn {j} {p2 : Pos} (ha : XB X C a fb) : XE X C (.Compare a [.Is] [.Constant .none j p2] pos) (dT (tIsN fb)) :=
  xe_of_dT ((pe_isN ha).imp fun σ H Q ⟨ρ, B, S, h⟩ => isn_go false S h)
theorem xt_cisn {j} {p2 : Pos} (ha : XB X C a fb) : XT X C (.Compare a [.Is] [.Constant .none j p2] pos) (tIsN fb) :=
  (pt_cmp (pc_isN ha) rfl).imp fun σ H Q ⟨ρ, B, S, h⟩ => isn_go (Q := fun x H' => ∃ k, x = .bl k ∧ Q k H') false S (pR.on h (Ext.refl S.sm) fun b z B' H' x => ⟨b, rfl, z B' H' x⟩)
theorem notn_go {K : PySem.W.Frag} {σ : L2.St} {H B : Hp} {ρ : Env} {Q : VK} (S : Stt K C B H σ ρ)
    (h : pR C B H σ (fun b => ∀ B' H', Ext B H B' H' → Q (.bl b) H') (tNotN fb ρ)) : tBo K C fb σ H fun x H1 => Q (.bl (!decide (x = .non))) H1 := by
  refine isn_go true S ?_
  unfold tNotN at h
  cases e : fb ρ with
  | ok s =>
    rw [e] at h
    have h' : pR C B H σ (fun b => ∀ B' H', Ext B H B' H' → Q (.bl b) H') ((isN s).bind fun b => .ok (!b)) := h
    exact bindP h' fun b _ h B' H' x => h B' H' x
  | er k => rw [e] at h; exact h
  | no => rw [e] at h; exact h
theorem xe_cnotn {j} {p2 : Pos} (ha : XB X C a fb) : XE X C (.Compare a [.IsNot] [.Constant .none j p2] pos) (dT (tNotN fb)) :=
  xe_of_dT ((pe_notN ha).imp fun σ H Q ⟨ρ, B, S, h⟩ => notn_go S h)
theorem xt_cnotn {j} {p2 : Pos} (ha : XB X C a fb) : XT X C (.Compare a [.IsNot] [.Constant .none j p2] pos) (tNotN fb) :=
  (pt_cmp (pc_notN ha) rfl).imp fun σ H Q ⟨ρ, B, S, h⟩ => notn_go (Q := fun x H' => ∃ k, x = .bl k ∧ Q k H') S (pR.on h (Ext.refl S.sm) fun b z B' H' x => ⟨b, rfl, z B' H' x⟩)

/-! ### and, or, not as values -/
theorem asB_of {B : Hp} {v : V} {d : PyData} {α : Type} {P : α → Prop} {H : Hp} {σ : L2.St} {F : Bool → Rs α} (h : Dt B v d) (q : pR C B H σ P ((asB d).bind F)) : ∃ b, v = .bl b ∧ d = .bool b ∧ pR C B H σ P (F b) := by
  cases h with
  | bl b => exact ⟨b, rfl, rfl, q⟩
  | _ => exact q.elim
theorem xe_one {o : BoolOp} (ha : XE X C a f) : XE X C (.BoolOp o [a] pos) f := pe_one ha
theorem xe_and (ha : XE X C a f) (hb : XE X C (.BoolOp .And (b :: es) pos) g) : XE X C (.BoolOp .And (a :: b :: es) pos) (dAnd f g) :=
  (pe_and ha hb).imp fun σ H Q ⟨ρ, B, S, h⟩ => ⟨ρ, B, S, bindP h fun x _ h v1 B1 H1 x1 t1 => by
    obtain ⟨k, rfl, rfl, h'⟩ := asB_of t1 (pE.on (Q := Q) h x1)
    refine ⟨k, rfl, ?_⟩
    cases k with
    | true => exact ⟨ρ, B1, S.on x1, h'⟩
    | false => exact h' _ B1 H1 (Ext.refl x1.s) (.bl _)⟩
theorem xe_or (ha : XE X C a f) (hb : XE X C (.BoolOp .Or (b :: es) pos) g) : XE X C (.BoolOp .Or (a :: b :: es) pos) (dOr f g) :=
  (pe_or ha hb).imp fun σ H Q ⟨ρ, B, S, h⟩ => ⟨ρ, B, S, bindP h fun x _ h v1 B1 H1 x1 t1 => by
    obtain ⟨k, rfl, rfl, h'⟩ := asB_of t1 (pE.on (Q := Q) h x1)
    refine ⟨k, rfl, ?_⟩
    cases k with
    | true => exact h' _ B1 H1 (Ext.refl x1.s) (.bl _)
    | false => exact ⟨ρ, B1, S.on x1, h'⟩⟩
theorem xe_not (ha : XE X C a f) : XE X C (.UnaryOp .Not a pos) (dNot f) :=
  (pe_not ha).imp fun σ H Q ⟨ρ, B, S, h⟩ => ⟨ρ, B, S, bindP h fun x _ h v1 B1 H1 x1 t1 => by
    obtain ⟨k, rfl, rfl, h'⟩ := asB_of t1 (pE.on (Q := Q) h x1)
    exact ⟨k, rfl, h' _ B1 H1 (Ext.refl x1.s) (.bl _)⟩⟩

/-! ### tests -/
theorem xt_w (h : XW X C e t) : XT X C e t := PW.pt h
theorem xw_and1 (ha : XT X C a t) : XW X C (.BoolOp .And [a] pos) t := pw_and1 ha
theorem xw_or1 (ha : XT X C a t) : XW X C (.BoolOp .Or [a] pos) t := pw_or1 ha
theorem xw_and (ha : XT X C a t) (hb : XW X C (.BoolOp .And (b :: es) pos) u) : XW X C (.BoolOp .And (a :: b :: es) pos) (tAnd t u) :=
  (pw_and ha hb).imp fun σ H Q ⟨ρ, B, S, h⟩ => ⟨ρ, B, S, bindP h fun k _ h B1 H1 x1 => by
    have h' := pT.on (Q := Q) h x1
    cases k with
    | true => exact ⟨ρ, B1, S.on x1, h'⟩
    | false => exact h' B1 H1 (Ext.refl x1.s)⟩
theorem xw_or (ha : XT X C a t) (hb : XW X C (.BoolOp .Or (b :: es) pos) u) : XW X C (.BoolOp .Or (a :: b :: es) pos) (tOr t u) :=
  (pw_or ha hb).imp fun σ H Q ⟨ρ, B, S, h⟩ => ⟨ρ, B, S, bindP h fun k _ h B1 H1 x1 => by
    have h' := pT.on (Q := Q) h x1
    cases k with
    | true => exact h' B1 H1 (Ext.refl x1.s)
    | false => exact ⟨ρ, B1, S.on x1, h'⟩⟩
theorem xt_not (ha : XT X C a t) : XT X C (.UnaryOp .Not a pos) (tNot t) :=
  (pt_not ha).imp fun σ H Q ⟨ρ, B, S, h⟩ => ⟨ρ, B, S, bindP h fun k _ h B1 H1 x1 => h B1 H1 x1⟩
theorem isEmpty_len {α β : Type} {xs : List α} {ys : List β} (h : xs.length = ys.length) : xs.isEmpty = ys.isEmpty := by
  cases xs <;> cases ys <;> simp_all
theorem truS_of {K : PySem.W.Frag} {B H : Hp} {v : V} {s : Sl} {b : Bool} (sm : Same B H) (h : SlV K C B H v s) (q : truS s = .ok b) : TruV K v H b := by
  cases s with
  | fz d =>
    have h' : Dt B v d := h
    cases h' with
    | non => have q' : false = b := by injection q
             exact q'.symm
    | bl k => have q' : k = b := by injection q
              exact q'.symm
    | int i => have q' : (i != 0) = b := by injection q
               exact q'.symm
    | str _ => cases q
    | @lst p xs ds h1 h2 =>
      have q' : (!ds.isEmpty) = b := by injection q
      exact .inl ⟨xs, SqL.of (sm _ _ h1), by rw [isEmpty_len h2.len]; exact q'.symm⟩
    | @tup p xs ds h1 h2 =>
      have q' : (!ds.isEmpty) = b := by injection q
      exact .inr (.inl ⟨xs, SqT.of (sm _ _ h1), by rw [isEmpty_len h2.len]; exact q'.symm⟩)
  | ow ds =>
    obtain ⟨p, xs, rfl, z1, _, _, z4⟩ := h
    have q' : (!ds.isEmpty) = b := by injection q
    exact .inl ⟨xs, SqL.of z1, by rw [isEmpty_len z4.len]; exact q'.symm⟩
  | sc ns =>
    obtain ⟨p, rfl, z⟩ := h
    have q' : (!ns.isEmpty) = b := by injection q
    exact .inl ⟨_, Sq_mono z sm, by rw [isEmpty_len (List.length_map V.int)]; exact q'.symm⟩
  | _ => cases q
theorem truS_ne (s : Sl) (k : XK) : truS s ≠ .er k := by
  intro h
  unfold truS at h
  split at h <;> cases h
theorem xt_tru (ha : XB X C a fb) (he : ∀ whole, isTrue a X.env whole = (do let v ← whole; standAt a.pos; holding [v] (truthy v)) := by intro _; rfl) : XT X C a (tTru fb) :=
  (pt_truth ha he).imp fun σ H Q ⟨ρ, B, S, h⟩ => ⟨ρ, B, S, bindP h fun s _ h v1 B1 H1 x1 t1 => by
    cases q : truS s with
    | ok b =>
      rw [q] at h
      exact ⟨b, truS_of x1.s t1 q, h B1 H1 x1⟩
    | er k => exact absurd q (truS_ne s k)
    | no => rw [q] at h; exact h.elim⟩
theorem xe_if (hc : XT X C c t) (ha : XE X C a f) (hb : XE X C b g) : XE X C (.IfExp c a b pos) (dIf t f g) :=
  (pe_ifExp hc ha hb).imp fun σ H Q ⟨ρ, B, S, h⟩ => ⟨ρ, B, S, bindP h fun k _ h B1 H1 x1 => by
    have h' := pE.on (Q := Q) h x1
    cases k with
    | true => exact ⟨ρ, B1, S.on x1, h'⟩
    | false => exact ⟨ρ, B1, S.on x1, h'⟩⟩
end
end MS

/-! MsLayD: displays, subscripts, slices, what is walked, comprehensions, len, any, all, list, tuple. -/
namespace MS
open PySem L2 PyProof.Rows

/-- the built-in names stand -/
structure Txs (mg : Str → Option Value) : Prop where
  len : mg "len" = none
  range : mg "range" = none
  sorted : mg "sorted" = none
  set : mg "set" = none
  list : mg "list" = none
  tuple : mg "tuple" = none
  any : mg "any" = none
  all : mg "all" = none
  isinstance : mg "isinstance" = none
  str : mg "str" = none
  int : mg "int" = none
  min : mg "min" = none
  max : mg "max" = none
  bool : mg "bool" = none
  val : mg "ValueError" = none

section
variable {X : Cx} {C : Cc} {e a b c d0 : Expr} {es : List Expr} {f g h k : DE} {fb gb : DB} {t u : DT} {l : DL} {pos : Pos}

/-! ### displays -/
structure XAs (X : Cx) (C : Cc) (es : List Expr) (l : DL) : Prop where
  run : PA X es (tA X.K C l)
  len : ∀ ρ ds, l ρ = .ok ds → ds.length = es.length
theorem xa_nil : XAs X C [] lNil := ⟨pa_nil.imp fun σ H Q ⟨ρ, B, S, h⟩ => h [] B H (Ext.refl S.sm) .nil, fun ρ ds h => by
  have h' : ([] : List PyData) = ds := by injection h
  subst h'; rfl⟩
theorem xa_cons (ha : XE X C a f) (hr : XAs X C es l) (hs : starEach (a :: es) X.env = (false, eval a X.env) :: starEach es X.env := by rfl) : XAs X C (a :: es) (lCons f l) :=
  ⟨(pa_cons ha hr.run hs).imp fun σ H Q ⟨ρ, B, S, h⟩ => ⟨ρ, B, S, bindP h fun x _ h v1 B1 H1 x1 t1 => ⟨ρ, B1, S.on x1, bindP (pA.on (Q := Q) h x1) fun ds _ h vs B2 H2 x2 t2 => h _ B2 H2 x2 (.cons (t1.on x2.b) t2)⟩⟩, fun ρ ds h => by
    unfold lCons at h
    cases e1 : f ρ with
    | ok x =>
      rw [e1] at h
      cases e2 : l ρ with
      | ok xs =>
        rw [Rs.bind_ok, e2] at h
        have h' : x :: xs = ds := by injection h
        subst h'
        rw [List.length_cons, List.length_cons, hr.len ρ xs e2]
      | er k => rw [Rs.bind_ok, e2] at h; cases h
      | no => rw [Rs.bind_ok, e2] at h; cases h
    | er k => rw [e1] at h; cases h
    | no => rw [e1] at h; cases h⟩
theorem xe_tup {x1} (ha : XAs X C es l) (hz : es.length ≤ 1000 := by decide) : XE X C (.Tuple es x1 pos) (dTup l) :=
  (pe_tup ha.run).imp fun σ H Q ⟨ρ, B, S, h⟩ => ⟨ρ, B, S, bindP h fun ds e h vs B1 H1 x1 t1 => ⟨by rw [t1.len, ha.len ρ ds e]; exact lim_le (Nat.le_trans hz (by decide)), fun p hp => by
    have x2 := Ext.new (o := .tup vs) x1.s hp
    exact h _ _ _ (x1.trans x2) (.tup upd_same (t1.on x2.b))⟩⟩
theorem xl_lst (ha : XAs X C es l) (hz : es.length ≤ 1000 := by decide) : XL X C (.List es pos) l :=
  (pe_lst ha.run).imp fun σ H Q ⟨ρ, B, S, h⟩ => by
    cases e : l ρ with
    | er k => exact ⟨ρ, B, S, by rw [e] at h ⊢; exact h⟩
    | no => rw [e] at h; exact h.elim
    | ok ds =>
      rw [e] at h
      refine ⟨ρ, B, S, ?_⟩
      rw [e]
      intro vs B1 H1 x1 t1
      refine ⟨by rw [t1.len, ha.len ρ ds e]; exact lim_le (Nat.le_trans hz (by decide)), fun p hp => ?_⟩
      exact h p vs B1 _ (x1.trans (Ext.raw x1.s hp)) (x1.h.free hp) (x1.s.free hp) upd_same t1
theorem lst_frz {B H B' H' : Hp} {a : Addr} {xs : List V} {ds : List PyData} (x : Ext B H B' H') (n1 : H a = none) (n2 : B' a = none) (h1 : H' a = some (.lst xs)) (t : DtAll B' xs ds) : ∃ B2, Ext B H B2 H' ∧ Dt B2 (.ref a) (.list ds) := by
  have s2 : Same B' (upd B' a (.lst xs)) := same_new n2
  refine ⟨upd B' a (.lst xs), ⟨x.b.trans s2, x.h, fun c o q => ?_, fun c o q => ?_⟩, .lst upd_same (t.on s2)⟩
  · by_cases z : c = a
    · subst z; rw [upd_same] at q; rw [h1]; exact q
    · rw [upd_ne z] at q; exact x.s _ _ q
  · by_cases z : c = a
    · subst z; exact .inr (.inl n1)
    · rw [upd_ne z] at q; exact x.n _ _ q
theorem xe_lst (ha : XL X C e l) : XE X C e (dLst l) := PE.imp ha fun σ H Q ⟨ρ, B, S, h⟩ => ⟨ρ, B, S, bindP h fun ds e h a xs B1 H1 x1 n1 n2 h1 t1 => by
  obtain ⟨B2, x2, t2⟩ := lst_frz x1 n1 n2 h1 t1
  exact h _ B2 H1 x2 t2⟩

/-! ### subscripts -/
theorem atD_eq {α : Type} (xs : List α) (i : Int) : atD xs i = atI xs i := by
  unfold atD atI ixN
  by_cases h1 : 0 ≤ i
  · rw [if_pos h1, if_pos h1]
    by_cases h2 : i < xs.length
    · rw [if_pos h2, if_pos h2]; rfl
    · rw [if_neg h2, if_neg h2]; rfl
  · rw [if_neg h1, if_neg h1]
    by_cases h2 : -(xs.length : Int) ≤ i
    · rw [if_pos h2, if_pos h2]; rfl
    · rw [if_neg h2, if_neg h2]; rfl
theorem DtAll.at {B : Hp} {vs : List V} {ds : List PyData} {i : Int} {d : PyData} (h : DtAll B vs ds) (e : atD ds i = some d) : ∃ v, atI vs i = some v ∧ Dt B v d := by
  rw [atD_eq] at e
  unfold atI at e ⊢
  rw [h.len]
  cases q : ixN ds.length i with
  | none => rw [q] at e; cases e
  | some j =>
    rw [q] at e
    exact h.getD e
theorem atD_map {α β : Type} (F : α → β) (xs : List α) (i : Int) : atD (xs.map F) i = (atD xs i).map F := by
  unfold atD
  rw [List.length_map]
  split
  · split
    · rw [List.getElem?_map]
    · rfl
  · split
    · rw [List.getElem?_map]
    · rfl
theorem ix_of {K : PySem.W.Frag} {B H : Hp} {σ : L2.St} {v w : V} {s : Sl} {d : PyData} {Q : VK} (sm : Same B H) (h : SlV K C B H v s) (hi : Dt B w d) (q : pE C B H σ Q (ixS s d)) : rIx K v w H Q := by
  have fin : ∀ {o : Option PyData}, pE C B H σ Q (ofO o) → ∃ d, o = some d ∧ pE C B H σ Q (.ok d) := fun {o} z => by
    cases o with
    | none => exact z.elim
    | some d => exact ⟨d, rfl, z⟩
  cases hi with
  | int i =>
    cases s with
    | fz dy =>
      have h' : Dt B v dy := h
      cases h' with
      | @lst p xs ds h1 h2 =>
        obtain ⟨d, e, q'⟩ := fin (show pE C B H σ Q (ofO (atD ds i)) from q)
        obtain ⟨x, hx, tx⟩ := h2.at e
        exact .inl ⟨p, xs, i, x, rfl, rfl, SqL.of (sm _ _ h1), hx, q' x B H (Ext.refl sm) tx⟩
      | @tup p xs ds h1 h2 =>
        obtain ⟨d, e, q'⟩ := fin (show pE C B H σ Q (ofO (atD ds i)) from q)
        obtain ⟨x, hx, tx⟩ := h2.at e
        exact .inr (.inl ⟨p, xs, i, x, rfl, rfl, SqT.of (sm _ _ h1), hx, q' x B H (Ext.refl sm) tx⟩)
      | str z =>
        have q1 : pE C B H σ Q (if z.length ≤ lim then (ofO (atD z.cps.toList i)).bind fun c => .ok (.str ⟨#[c]⟩) else .no) := q
        by_cases hz : z.length ≤ lim
        · rw [if_pos hz] at q1
          cases e : atD z.cps.toList i with
          | none => rw [e] at q1; exact q1.elim
          | some c =>
            rw [e] at q1
            exact .inr (.inr ⟨z, i, c, rfl, rfl, lim_le hz, by rw [← atD_eq]; exact e, q1 _ B H (Ext.refl sm) (.str _)⟩)
        · rw [if_neg hz] at q1
          exact q1.elim
      | _ => exact q.elim
    | ow ds =>
      obtain ⟨p, xs, rfl, z1, _, _, z4⟩ := h
      obtain ⟨d, e, q'⟩ := fin (show pE C B H σ Q (ofO (atD ds i)) from q)
      obtain ⟨x, hx, tx⟩ := z4.at e
      exact .inl ⟨p, xs, i, x, rfl, rfl, SqL.of z1, hx, q' x B H (Ext.refl sm) tx⟩
    | sc ns =>
      obtain ⟨p, rfl, z⟩ := h
      have q1 : pE C B H σ Q ((ofO (atD ns i)).bind fun n => .ok (.int n)) := q
      cases e : atD ns i with
      | none => rw [e] at q1; exact q1.elim
      | some n =>
        rw [e] at q1
        exact .inl ⟨p, _, i, .int n, rfl, rfl, Sq_mono z sm, by rw [← atD_eq, atD_map, e]; rfl, q1 _ B H (Ext.refl sm) (.int _)⟩
    | nil => exact h.elim
    | ex k => exact q.elim
    | dc _ => exact q.elim
  | _ => cases s <;> first | exact q.elim | (rename_i d; cases d <;> exact q.elim)
theorem xe_ix (ha : XB X C a fb) (hb : XE X C b g) (hs : PlainIx b := by intro _ _; rfl) : XE X C (.Subscript a b pos) (dIx fb g) :=
  (pe_ix ix_seq ha hb hs).imp fun σ H Q ⟨ρ, B, S, h⟩ => ⟨ρ, B, S, bindP h fun s _ h v1 B1 H1 x1 t1 => ⟨ρ, B1, S.on x1, bindP (pE.on (Q := Q) h x1) fun d _ h v2 B2 H2 x2 t2 => ix_of x2.s (t1.on x2) t2 (pE.on (Q := Q) h x2)⟩⟩

/-! ### slices -/
theorem sIx_eq (n d : Nat) (o : Option Int) : sIx n d o = HT.sIx n d o := by
  cases o <;> rfl
def pO (C : Cc) (B H : Hp) (σ : L2.St) (Q : Option Int → Hp → Prop) : Rs (Option Int) → Prop := pR C B H σ fun o => ∀ B' H', Ext B H B' H' → Q o H'
def tO (K : PySem.W.Frag) (C : Cc) (f : DO) : TO := fun σ H Q => ∃ ρ B, Stt K C B H σ ρ ∧ pO C B H σ Q (f ρ)
def XO (X : Cx) (C : Cc) (e : Option Expr) (f : DO) : Prop := PO X e (tO X.K C f)
theorem _root_.L2.PO.imp {X : Cx} {e : Option Expr} {t u : TO} (h : PO X e t) (k : ∀ σ H Q, u σ H Q → t σ H Q) : PO X e u := ⟨fun pins s σ H Q I hq => h.run pins s σ H Q I (k σ H Q hq)⟩
theorem xo_n : XO X C none oN := po_none.imp fun σ H Q ⟨ρ, B, S, h⟩ => h B H (Ext.refl S.sm)
theorem xo_e (ha : XE X C a f) : XO X C (some a) (oE f) := (po_some ha).imp fun σ H Q ⟨ρ, B, S, h⟩ => ⟨ρ, B, S, bindP h fun d _ h v1 B1 H1 x1 t1 => by
  cases t1 with
  | int i => exact ⟨i, rfl, h B1 H1 x1⟩
  | _ => exact h.elim⟩
theorem xe_sl {lo hi : Option Expr} {fl fh : DO} {p2 : Pos} (ha : XE X C a f) (hl : XO X C lo fl) (hh : XO X C hi fh) : XE X C (.Subscript a (.Slice lo hi none p2) pos) (dSl f fl fh) :=
  (pe_slice (sl_list.or (sl_tupA.or sl_str)) ha hl hh).imp fun σ H Q ⟨ρ, B, S, h⟩ => ⟨ρ, B, S, bindP h fun d _ h v1 B1 H1 x1 t1 => ⟨ρ, B1, S.on x1, bindP (pE.on (Q := Q) h x1) fun lo _ h B2 H2 x2 =>
    ⟨ρ, B2, (S.on x1).on x2, bindP (pE.on (Q := Q) h x2) fun hi _ h B3 H3 x3 => by
      have h' := pE.on (Q := Q) h x3
      have t3 := (t1.on x2.b).on x3.b
      have sm := x3.s
      cases t3 with
      | @lst p xs ds h1 h2 =>
        refine .inl ⟨p, xs, rfl, SqL.of (sm _ _ h1), fun q hq => ?_⟩
        have x4 := Ext.new (o := .lst (cutV xs lo hi)) sm hq
        refine h' _ _ _ x4 (.lst upd_same (DtAll.on ?_ x4.b))
        unfold cutV cutD
        rw [h2.len, ← sIx_eq, ← sIx_eq]
        exact (h2.drop _).take _
      | @tup p xs ds h1 h2 =>
        have hc : DtAll B3 (cutV xs lo hi) (cutD ds lo hi) := by
          unfold cutV cutD
          rw [h2.len, ← sIx_eq, ← sIx_eq]
          exact (h2.drop _).take _
        refine .inr (.inl ⟨p, xs, rfl, SqT.of (sm _ _ h1), fun hw => ?_, fun _ q hq => ?_⟩)
        · have e : cutD ds lo hi = ds := by
            unfold cutD
            rw [h2.len, ← sIx_eq, ← sIx_eq] at hw
            rw [hw.1, hw.2]
            simp
          have h2' : pE C B3 H3 σ Q (.ok (.tuple (cutD ds lo hi))) := h'
          rw [e] at h2'
          exact h2' _ B3 H3 (Ext.refl sm) (.tup h1 h2)
        · have x4 := Ext.new (o := .tup (cutV xs lo hi)) sm hq
          exact h' _ _ _ x4 (.tup upd_same (hc.on x4.b))
      | str z =>
        have h2' : pE C B3 H3 σ Q (if z.length ≤ lim then .ok (.str ⟨(cutD z.cps.toList lo hi).toArray⟩) else .no) := h'
        by_cases hz : z.length ≤ lim
        · rw [if_pos hz] at h2'
          refine .inr (.inr ⟨z, rfl, lim_le hz, ?_⟩)
          have e : cutS z lo hi = ⟨(cutD z.cps.toList lo hi).toArray⟩ := by
            unfold cutS cutD
            have hzl : z.cps.toList.length = z.length := by simp [Str.length]
            rw [hzl, ← sIx_eq, ← sIx_eq]
          rw [e]
          exact h2' _ B3 H3 (Ext.refl sm) (.str _)
        · rw [if_neg hz] at h2'
          exact h2'.elim
      | _ => exact h'.elim⟩⟩⟩
theorem xe_rev {p1 p2 p3 : Pos} {j} (ha : XE X C a f) : XE X C (.Subscript a (.Slice none none (some (.UnaryOp .USub (.Constant (.int 1) j p1) p2)) p3) pos) (dRev f) :=
  (pe_revL ha).imp fun σ H Q ⟨ρ, B, S, h⟩ => ⟨ρ, B, S, bindP h fun d _ h v1 B1 H1 x1 t1 => by
    cases t1 with
    | @lst p xs ds h1 h2 =>
      refine ⟨p, xs, rfl, SqL.of (x1.s _ _ h1), fun q hq => ?_⟩
      have x4 := Ext.new (o := .lst xs.reverse) x1.s hq
      exact h _ _ _ (x1.trans x4) (.lst upd_same (h2.rev.on x4.b))
    | _ => exact h.elim⟩

/-! ### built-ins over sequences -/
theorem lenS_of {K : PySem.W.Frag} {B H : Hp} {σ : L2.St} {v : V} {s : Sl} {Q : VK} (sm : Same B H) (h : SlV K C B H v s) (q : pE C B H σ Q (lenS s)) : ∃ n, LenV K v H n ∧ Q (.int n) H := by
  cases s with
  | fz d =>
    have h' : Dt B v d := h
    cases h' with
    | @lst p xs ds h1 h2 => exact ⟨ds.length, .inl ⟨xs, SqL.of (sm _ _ h1), h2.len.symm⟩, q _ B H (Ext.refl sm) (.int _)⟩
    | @tup p xs ds h1 h2 => exact ⟨ds.length, .inr ⟨xs, SqT.of (sm _ _ h1), h2.len.symm⟩, q _ B H (Ext.refl sm) (.int _)⟩
    | str z =>
      have q1 : pE C B H σ Q (if z.length ≤ lim then .ok (.int z.length) else .no) := q
      by_cases hz : z.length ≤ lim
      · rw [if_pos hz] at q1
        exact ⟨z.length, ⟨lim_le hz, rfl⟩, q1 _ B H (Ext.refl sm) (.int _)⟩
      · rw [if_neg hz] at q1
        exact q1.elim
    | _ => exact q.elim
  | ow ds =>
    obtain ⟨p, xs, rfl, z1, _, _, z4⟩ := h
    exact ⟨ds.length, .inl ⟨xs, SqL.of z1, z4.len.symm⟩, q _ B H (Ext.refl sm) (.int _)⟩
  | sc ns =>
    obtain ⟨p, rfl, z⟩ := h
    exact ⟨ns.length, .inl ⟨_, Sq_mono z sm, by rw [List.length_map]⟩, q _ B H (Ext.refl sm) (.int _)⟩
  | nil => exact h.elim
  | ex k => exact q.elim
  | dc _ => exact q.elim
variable {p : Pos}
theorem xe_len (T : Txs X.mg) (ha : XB X C a fb) (hg : Gl X "len" := by rfl) (he : starEach (a :: []) X.env = (false, eval a X.env) :: starEach [] X.env := by rfl) (hpl : (backTo pos (starEach [] X.env)).any (·.1) = false := by rfl) : XE X C (.Call (.Name "len" p) [a] [] pos) (dLen fb) :=
  (pe_callB call_len hg T.len PySem.boot_len (pa_cons ha pa_nil he) (he := he) (hpl := hpl)).imp fun σ H Q ⟨ρ, B, S, h⟩ => ⟨ρ, B, S, bindP h fun s _ h v1 B1 H1 x1 t1 => by
    obtain ⟨n, h1, h2⟩ := lenS_of x1.s t1 (pE.on (Q := Q) h x1)
    exact ⟨v1, n, rfl, h1, h2⟩⟩
theorem xe_any (T : Txs X.mg) (ha : XE X C a f) (hc : X.calm = true := by rfl) (hg : Gl X "any" := by rfl) (he : starEach (a :: []) X.env = (false, eval a X.env) :: starEach [] X.env := by rfl) (hpl : (backTo pos (starEach [] X.env)).any (·.1) = false := by rfl) : XE X C (.Call (.Name "any" p) [a] [] pos) (dAny f) :=
  (pe_callB (cr_any hc) hg T.any (by decide +kernel) (pa_cons ha pa_nil he) (he := he) (hpl := hpl)).imp fun σ H Q ⟨ρ, B, S, h⟩ => ⟨ρ, B, S, bindP h fun d _ h v1 B1 H1 x1 t1 => by
    have h' := pE.on (Q := Q) h x1
    cases t1 with
    | @lst q xs ds h1 h2 =>
      cases e : boolsOf ds with
      | none => simp only [anyD, e, ofO, Rs.bind_no] at h'; exact h'.elim
      | some bs =>
        simp only [anyD, e, ofO, Rs.bind_ok] at h'
        have := h2.bools e
        subst this
        exact ⟨q, bs, rfl, SqL.of (x1.s _ _ h1), h' _ B1 H1 (Ext.refl x1.s) (.bl _)⟩
    | _ => exact h'.elim⟩
theorem xe_all (T : Txs X.mg) (ha : XE X C a f) (hc : X.calm = true := by rfl) (hg : Gl X "all" := by rfl) (he : starEach (a :: []) X.env = (false, eval a X.env) :: starEach [] X.env := by rfl) (hpl : (backTo pos (starEach [] X.env)).any (·.1) = false := by rfl) : XE X C (.Call (.Name "all" p) [a] [] pos) (dAll f) :=
  (pe_callB (cr_all hc) hg T.all (by decide +kernel) (pa_cons ha pa_nil he) (he := he) (hpl := hpl)).imp fun σ H Q ⟨ρ, B, S, h⟩ => ⟨ρ, B, S, bindP h fun d _ h v1 B1 H1 x1 t1 => by
    have h' := pE.on (Q := Q) h x1
    cases t1 with
    | @lst q xs ds h1 h2 =>
      cases e : boolsOf ds with
      | none => simp only [allD, e, ofO, Rs.bind_no] at h'; exact h'.elim
      | some bs =>
        simp only [allD, e, ofO, Rs.bind_ok] at h'
        have := h2.bools e
        subst this
        exact ⟨q, bs, rfl, SqL.of (x1.s _ _ h1), h' _ B1 H1 (Ext.refl x1.s) (.bl _)⟩
    | _ => exact h'.elim⟩
theorem xl_list (T : Txs X.mg) (ha : XB X C a fb) (hg : Gl X "list" := by rfl) (he : starEach (a :: []) X.env = (false, eval a X.env) :: starEach [] X.env := by rfl) (hpl : (backTo pos (starEach [] X.env)).any (·.1) = false := by rfl) : XL X C (.Call (.Name "list" p) [a] [] pos) (lList fb) :=
  (pe_callTy call_list_of hg T.list (by decide +kernel) (pa_cons ha pa_nil he) (he := he) (hpl := hpl)).imp fun σ H Q ⟨ρ, B, S, h⟩ => ⟨ρ, B, S, bindP h fun s _ h v1 B1 H1 x1 t1 => by
    have h' := pL.on (Q := Q) h x1
    have fin : ∀ {xs : List V} {ds : List PyData}, DtAll B1 xs ds → pL C B1 H1 σ Q (.ok ds) → ∀ l, H1 l = none → Q (.ref l) (upd H1 l (.lst xs)) := fun {xs ds} t z l hl => z l xs B1 _ (Ext.raw x1.s hl) hl (x1.s.free hl) upd_same t
    cases s with
    | fz d =>
      have t1' : Dt B1 v1 d := t1
      cases t1' with
      | @lst q xs ds h1 h2 => exact ⟨q, xs, rfl, .inl (SqL.of (x1.s _ _ h1)), fin h2 h'⟩
      | @tup q xs ds h1 h2 => exact ⟨q, xs, rfl, .inr (SqT.of (x1.s _ _ h1)), fin h2 h'⟩
      | _ => exact h'.elim
    | ow ds =>
      obtain ⟨q, xs, rfl, z1, _, _, z4⟩ := t1
      exact ⟨q, xs, rfl, .inl (SqL.of z1), fin z4 h'⟩
    | nil => exact t1.elim
    | ex k => exact h'.elim
    | sc _ => exact h'.elim
    | dc _ => exact h'.elim⟩
theorem xe_tuple (T : Txs X.mg) (ha : XE X C a f) (hg : Gl X "tuple" := by rfl) (he : starEach (a :: []) X.env = (false, eval a X.env) :: starEach [] X.env := by rfl) (hpl : (backTo pos (starEach [] X.env)).any (·.1) = false := by rfl) : XE X C (.Call (.Name "tuple" p) [a] [] pos) (dTuple f) :=
  (pe_callTy call_tuple_of hg T.tuple (by decide +kernel) (pa_cons ha pa_nil he) (he := he) (hpl := hpl)).imp fun σ H Q ⟨ρ, B, S, h⟩ => ⟨ρ, B, S, bindP h fun d _ h v1 B1 H1 x1 t1 => by
    have h' := pE.on (Q := Q) h x1
    cases t1 with
    | @lst q xs ds h1 h2 =>
      refine ⟨q, xs, rfl, .inl ⟨SqL.of (x1.s _ _ h1), fun l hl => ?_⟩⟩
      have x4 := Ext.new (o := .tup xs) x1.s hl
      exact h' _ _ _ x4 (.tup upd_same (h2.on x4.b))
    | @tup q xs ds h1 h2 => exact ⟨q, xs, rfl, .inr ⟨SqT.of (x1.s _ _ h1), h' _ B1 H1 (Ext.refl x1.s) (.tup h1 h2)⟩⟩
    | _ => exact h'.elim⟩
end
end MS

/-! MsLayE: what is walked, targets, comprehensions. -/
namespace MS
open PySem L2 PyProof.Rows

/-! ### walks -/
/-- the iterator J yields ds: in every state that bears P -/
def Walk (J : It) (P : Hp → Hp → Prop) (ds : List PyData) : Prop := ∀ B H, P B H → Same B H → ∀ i : Nat, (ds.length ≤ i → J.stop i H) ∧ ∀ d, ds[i]? = some d → J.go i H ∧ ∀ x H', J.yld i H x H' → ∃ B', Ext B H B' H' ∧ Dt B' x d
/-- .. as long as the frozen part stays | as long as nothing changes -/
def pI (C : Cc) (B H : Hp) (σ : L2.St) (R : It → Hp → Prop) : Rs (List PyData) → Prop := pR C B H σ fun ds => ∀ J B1 H1, Ext B H B1 H1 → Walk J (fun B' _ => Same B1 B') ds → R J H1
def pIb (C : Cc) (B H : Hp) (σ : L2.St) (R : It → Hp → Prop) : Rs (List PyData) → Prop := pR C B H σ fun ds => ∀ J B1 H1, Ext B H B1 H1 → Walk J (fun B' H' => Ext B1 H1 B' H') ds → R J H1
def tI (K : PySem.W.Frag) (C : Cc) (f : DL) : TI := fun σ H R => ∃ ρ B, Stt K C B H σ ρ ∧ pI C B H σ R (f ρ)
def tIb (K : PySem.W.Frag) (C : Cc) (f : DL) : TI := fun σ H R => ∃ ρ B, Stt K C B H σ ρ ∧ pIb C B H σ R (f ρ)
def XI (X : Cx) (C : Cc) (tg e : Expr) (f : DL) : Prop := PI X tg e (tI X.K C f)
def XIb (X : Cx) (C : Cc) (tg e : Expr) (f : DL) : Prop := PI X tg e (tIb X.K C f)
theorem _root_.L2.PI.imp {X : Cx} {tg e : Expr} {t u : TI} (h : PI X tg e t) (k : ∀ σ H R, u σ H R → t σ H R) : PI X tg e u := ⟨fun pins s σ H R I hq => h.run pins s σ H R I (k σ H R hq)⟩
theorem pi_or {X : Cx} {tg e : Expr} {t u : TI} (h : PI X tg e t) (h' : PI X tg e u) : PI X tg e (fun σ H R => t σ H R ∨ u σ H R) := ⟨fun pins s σ H R I hq => hq.elim (h.run pins s σ H R I) (h'.run pins s σ H R I)⟩
theorem Walk.weak {J : It} {P P' : Hp → Hp → Prop} {ds : List PyData} (h : Walk J P ds) (k : ∀ B H, P' B H → P B H) : Walk J P' ds := fun B H p => h B H (k B H p)
theorem walk_list {K : PySem.W.Frag} {a : Addr} {xs : List V} {ds : List PyData} {P : Hp → Hp → Prop} (h : ∀ B H, P B H → Same B H → SqL K H a xs ∧ DtAll B xs ds) (uniq : ∀ B H, P B H → Same B H → ∀ ys, SqL K H a ys → ys = xs) : Walk (Itl K a) P ds := fun B H p sm i => by
  obtain ⟨h1, h2⟩ := h B H p sm
  refine ⟨fun hl => ⟨xs, h1, by rw [h2.len]; exact hl⟩, fun d hd => ?_⟩
  obtain ⟨v, hv, tv⟩ := h2.getD hd
  refine ⟨⟨xs, v, h1, hv⟩, fun x H' y => ?_⟩
  obtain ⟨rfl, y⟩ := y
  have := y xs h1
  rw [hv] at this
  cases this
  exact ⟨B, Ext.refl sm, tv⟩
theorem walk_list' {K : PySem.W.Frag} {a : Addr} {xs : List V} {ds : List PyData} {P : Hp → Hp → Prop} (h : ∀ B H, P B H → Same B H → H a = some (.lst xs) ∧ DtAll B xs ds) : Walk (Itl K a) P ds := fun B H p sm i => by
  obtain ⟨h1, h2⟩ := h B H p sm
  refine ⟨fun hl => ⟨xs, SqL.of h1, by rw [h2.len]; exact hl⟩, fun d hd => ?_⟩
  obtain ⟨v, hv, tv⟩ := h2.getD hd
  refine ⟨⟨xs, v, SqL.of h1, hv⟩, fun x H' y => ?_⟩
  obtain ⟨rfl, y⟩ := y
  have := y xs (SqL.of h1)
  rw [hv] at this
  cases this
  exact ⟨B, Ext.refl sm, tv⟩
theorem walk_tup {K : PySem.W.Frag} {a : Addr} {xs : List V} {ds : List PyData} {P : Hp → Hp → Prop} (h : ∀ B H, P B H → Same B H → H a = some (.tup xs) ∧ DtAll B xs ds) : Walk (Itt K a) P ds := fun B H p sm i => by
  obtain ⟨h1, h2⟩ := h B H p sm
  refine ⟨fun hl => ⟨xs, SqT.of h1, by rw [h2.len]; exact hl⟩, fun d hd => ?_⟩
  obtain ⟨v, hv, tv⟩ := h2.getD hd
  refine ⟨⟨xs, v, SqT.of h1, hv⟩, fun x H' y => ?_⟩
  obtain ⟨rfl, y⟩ := y
  have := y xs (SqT.of h1)
  rw [hv] at this
  cases this
  exact ⟨B, Ext.refl sm, tv⟩
theorem rngD_get {lo : Int} {n i : Nat} {d : PyData} (h : (rngD lo n)[i]? = some d) : i < n ∧ d = .int (lo + (i : Int)) := by
  unfold rngD at h
  rw [List.getElem?_map] at h
  cases e : (List.range n)[i]? with
  | none => rw [e] at h; cases h
  | some j =>
    rw [e] at h
    obtain ⟨h1, h2⟩ := List.getElem?_eq_some_iff.mp e
    rw [List.getElem_range] at h2
    subst h2
    rw [List.length_range] at h1
    have h3 : PyData.int (lo + (i : Int)) = d := Option.some.inj h
    exact ⟨h1, h3.symm⟩
theorem rngD_len (lo : Int) (n : Nat) : (rngD lo n).length = n := by simp [rngD]
theorem walk_rng {lo : Int} {n : Nat} {P : Hp → Hp → Prop} : Walk (Itr lo n) P (rngD lo n) := fun B H p sm i => by
  refine ⟨fun hl => by rw [rngD_len] at hl; exact hl, fun d hd => ?_⟩
  obtain ⟨h1, rfl⟩ := rngD_get hd
  refine ⟨h1, fun x H' y => ?_⟩
  obtain ⟨rfl, rfl⟩ := y
  exact ⟨B, Ext.refl sm, .int _⟩
theorem walk_str {z : Str} {P : Hp → Hp → Prop} : Walk (Its z) P (z.cps.toList.map fun c => .str ⟨#[c]⟩) := fun B H p sm i => by
  refine ⟨fun hl => by
    rw [List.length_map, Array.length_toList] at hl
    exact hl, fun d hd => ?_⟩
  rw [List.getElem?_map] at hd
  cases e : z.cps.toList[i]? with
  | none => rw [e] at hd; cases hd
  | some c =>
    rw [e] at hd
    have hd' : PyData.str ⟨#[c]⟩ = d := Option.some.inj hd
    subst hd'
    have hi : i < z.cps.size := by
      have := (List.getElem?_eq_some_iff.mp e).1
      simpa using this
    refine ⟨hi, fun x H' y => ?_⟩
    obtain ⟨rfl, c', hc, rfl⟩ := y
    have e2 : z.cps[i]? = some c := by rw [← Array.getElem?_toList]; exact e
    rw [e2] at hc
    cases hc
    exact ⟨B, Ext.refl sm, .str _⟩

section
variable {X : Cx} {C : Cc} {tg e a b : Expr} {es : List Expr} {f g : DE} {fb : DB} {l : DL} {pos p : Pos}
/-- a list, a tuple, a text, frozen -/
theorem xi_seq (ha : XE X C a f) : XI X C tg a (iSeq (bOf f)) :=
  (pi_or (pi_list (tg := tg) ha) (pi_or (pi_tup (tg := tg) ha) (pi_str (tg := tg) ha))).imp fun σ H R ⟨ρ, B, S, h⟩ => by
    have h1 : pI C B H σ R ((f ρ).bind fun d => itS (.fz d)) := by
      have e : iSeq (bOf f) ρ = (f ρ).bind fun d => itS (.fz d) := by
        unfold iSeq bOf
        cases f ρ <;> rfl
      rw [← e]; exact h
    cases e : f ρ with
    | er k => exact .inl ⟨ρ, B, S, by rw [e] at h1 ⊢; exact h1⟩
    | no => rw [e] at h1; exact h1.elim
    | ok d =>
      rw [e] at h1
      cases d with
      | list ds =>
        refine .inl ⟨ρ, B, S, ?_⟩
        rw [e]
        intro v B1 H1 x1 t1
        cases t1 with
        | @lst q xs _ z1 z2 => exact ⟨q, rfl, ⟨xs, SqL.of (x1.s _ _ z1)⟩, h1 _ B1 H1 x1 (walk_list' fun B' H' sb sm => ⟨sm _ _ (sb _ _ z1), z2.on sb⟩)⟩
      | tuple ds =>
        refine .inr (.inl ⟨ρ, B, S, ?_⟩)
        rw [e]
        intro v B1 H1 x1 t1
        cases t1 with
        | @tup q xs _ z1 z2 => exact ⟨q, rfl, ⟨xs, SqT.of (x1.s _ _ z1)⟩, h1 _ B1 H1 x1 (walk_tup fun B' H' sb sm => ⟨sm _ _ (sb _ _ z1), z2.on sb⟩)⟩
      | str z =>
        refine .inr (.inr ⟨ρ, B, S, ?_⟩)
        rw [e]
        intro v B1 H1 x1 t1
        cases t1
        have h2 : pI C B H σ R (if z.length ≤ lim then .ok (z.cps.toList.map fun c => .str ⟨#[c]⟩) else .no) := h1
        by_cases hz : z.length ≤ lim
        · rw [if_pos hz] at h2
          exact ⟨z, rfl, h2 _ B1 H1 x1 walk_str⟩
        · rw [if_neg hz] at h2
          exact h2.elim
      | none => exact h1.elim
      | bool _ => exact h1.elim
      | int _ => exact h1.elim
      | dict _ => exact h1.elim
/-- .. or one's own list, for a comprehension -/
theorem xib_seq (ha : XB X C a fb) : XIb X C tg a (iSeq fb) :=
  (pi_or (pi_list (tg := tg) ha) (pi_or (pi_tup (tg := tg) ha) (pi_str (tg := tg) ha))).imp fun σ H R ⟨ρ, B, S, h⟩ => by
    have h1 : pIb C B H σ R ((fb ρ).bind itS) := h
    cases e : fb ρ with
    | er k => exact .inl ⟨ρ, B, S, by rw [e] at h1 ⊢; exact h1⟩
    | no => rw [e] at h1; exact h1.elim
    | ok s =>
      rw [e] at h1
      cases s with
      | ow ds =>
        refine .inl ⟨ρ, B, S, ?_⟩
        rw [e]
        intro v B1 H1 x1 t1
        obtain ⟨q, xs, rfl, z1, z2, z3, z4⟩ := t1
        exact ⟨q, rfl, ⟨xs, SqL.of z1⟩, h1 _ B1 H1 x1 (walk_list' fun B' H' sb sm => ⟨sb.h _ _ z1, z4.on sb.b⟩)⟩
      | fz d =>
        cases d with
        | list ds =>
          refine .inl ⟨ρ, B, S, ?_⟩
          rw [e]
          intro v B1 H1 x1 t1
          have t1' : Dt B1 v (.list ds) := t1
          cases t1' with
          | @lst q xs _ z1 z2 => exact ⟨q, rfl, ⟨xs, SqL.of (x1.s _ _ z1)⟩, h1 _ B1 H1 x1 (walk_list' fun B' H' sb sm => ⟨sm _ _ (sb.b _ _ z1), z2.on sb.b⟩)⟩
        | tuple ds =>
          refine .inr (.inl ⟨ρ, B, S, ?_⟩)
          rw [e]
          intro v B1 H1 x1 t1
          have t1' : Dt B1 v (.tuple ds) := t1
          cases t1' with
          | @tup q xs _ z1 z2 => exact ⟨q, rfl, ⟨xs, SqT.of (x1.s _ _ z1)⟩, h1 _ B1 H1 x1 (walk_tup fun B' H' sb sm => ⟨sm _ _ (sb.b _ _ z1), z2.on sb.b⟩)⟩
        | str z =>
          refine .inr (.inr ⟨ρ, B, S, ?_⟩)
          rw [e]
          intro v B1 H1 x1 t1
          have t1' : Dt B1 v (.str z) := t1
          cases t1'
          have h2 : pIb C B H σ R (if z.length ≤ lim then .ok (z.cps.toList.map fun c => .str ⟨#[c]⟩) else .no) := h1
          by_cases hz : z.length ≤ lim
          · rw [if_pos hz] at h2
            exact ⟨z, rfl, h2 _ B1 H1 x1 walk_str⟩
          · rw [if_neg hz] at h2
            exact h2.elim
        | none => exact h1.elim
        | bool _ => exact h1.elim
        | int _ => exact h1.elim
        | dict _ => exact h1.elim
      | nil => exact h1.elim
      | ex _ => exact h1.elim
      | sc _ => exact h1.elim
      | dc _ => exact h1.elim
theorem xi_b (h : XI X C tg e l) : XIb X C tg e l := PI.imp h fun σ H R ⟨ρ, B, S, h⟩ => ⟨ρ, B, S, pR.on h (Ext.refl S.sm) fun ds z J B1 H1 x1 w => z J B1 H1 x1 (w.weak fun B' H' y => y.b)⟩
theorem xi_rng1 (T : Txs X.mg) (ha : XE X C a f) (hg : Gl X "range" := by rfl) (hs : starEach [a] X.env = [(false, eval a X.env)] := by rfl) : XI X C tg (.Call (.Name "range" p) [a] [] pos) (iR1 f) :=
  (pi_range1 hg T.range (pa_cons ha pa_nil (by rw [hs]; rfl)) hs).imp fun σ H R ⟨ρ, B, S, h⟩ => ⟨ρ, B, S, bindP h fun d _ h v1 B1 H1 x1 t1 => by
    cases t1 with
    | int n =>
      have h2 : pI C B H σ R (if -1000000 ≤ n ∧ n ≤ 1000000 then .ok (rngD 0 n.toNat) else .no) := h
      by_cases hz : -1000000 ≤ n ∧ n ≤ 1000000
      · rw [if_pos hz] at h2
        exact ⟨n, rfl, by omega, by omega, h2 _ B1 H1 x1 walk_rng⟩
      · rw [if_neg hz] at h2
        exact h2.elim
    | _ => exact h.elim⟩
theorem xi_rng2 (T : Txs X.mg) (ha : XE X C a f) (hb : XE X C b g) (hg : Gl X "range" := by rfl) (hs : starEach [a, b] X.env = [(false, eval a X.env), (false, eval b X.env)] := by rfl) (hs2 : starEach [b] X.env = [(false, eval b X.env)] := by rfl) : XI X C tg (.Call (.Name "range" p) [a, b] [] pos) (iR2 f g) :=
  (pi_range2 hg T.range (pa_cons ha (pa_cons hb pa_nil (by rw [hs2]; rfl)) (by rw [hs, hs2])) hs hs2).imp fun σ H R ⟨ρ, B, S, h⟩ => ⟨ρ, B, S, bindP h fun d _ h v1 B1 H1 x1 t1 => ⟨ρ, B1, S.on x1, bindP (pR.on (P' := fun ds => ∀ J B2 H2, Ext B1 H1 B2 H2 → Walk J (fun B' _ => Same B2 B') ds → R J H2) h x1 fun ds z J B2 H2 y w => z J B2 H2 (x1.trans y) w) fun d2 _ h v2 B2 H2 x2 t2 => by
    have t1' := t1.on x2.b
    cases t1' with
    | int n =>
      cases t2 with
      | int m =>
        have h2 : pR C B1 H1 σ (fun ds => ∀ J B2 H2, Ext B1 H1 B2 H2 → Walk J (fun B' _ => Same B2 B') ds → R J H2) (if -1000000 ≤ n ∧ n ≤ 1000000 ∧ -1000000 ≤ m ∧ m ≤ 1000000 then .ok (rngD n (m - n).toNat) else .no) := h
        by_cases hz : -1000000 ≤ n ∧ n ≤ 1000000 ∧ -1000000 ≤ m ∧ m ≤ 1000000
        · rw [if_pos hz] at h2
          exact ⟨n, m, rfl, by omega, h2 _ B2 H2 x2 walk_rng⟩
        · rw [if_neg hz] at h2
          exact h2.elim
      | _ => exact h.elim
    | _ => exact h.elim⟩⟩
theorem xib_rng1 (T : Txs X.mg) (ha : XE X C a f) (hg : Gl X "range" := by rfl) (hs : starEach [a] X.env = [(false, eval a X.env)] := by rfl) : XIb X C tg (.Call (.Name "range" p) [a] [] pos) (iR1 f) := xi_b (xi_rng1 T ha hg hs)
theorem xib_rng2 (T : Txs X.mg) (ha : XE X C a f) (hb : XE X C b g) (hg : Gl X "range" := by rfl) (hs : starEach [a, b] X.env = [(false, eval a X.env), (false, eval b X.env)] := by rfl) (hs2 : starEach [b] X.env = [(false, eval b X.env)] := by rfl) : XIb X C tg (.Call (.Name "range" p) [a, b] [] pos) (iR2 f g) := xi_b (xi_rng2 T ha hb hg hs hs2)
/-- list(range(..)) -/
theorem rgV_all {B : Hp} (n : Int) : DtAll B (rgV 0 n) (rngD 0 n.toNat) := by
  unfold rgV rngD
  rw [Int.sub_zero]
  generalize List.range n.toNat = l
  induction l with
  | nil => exact .nil
  | cons i l ih => exact .cons (.int _) ih
theorem xl_rng1 (T : Txs X.mg) (ha : XE X C a f) (hc : X.calm = true := by rfl) (hg : Gl X "range" := by rfl) (hg2 : Gl X "list" := by rfl) (na : starEach [a] X.env = (false, eval a X.env) :: starEach [] X.env := by rfl) {p2 q : Pos}
    (nb : starEach [.Call (.Name "range" p) [a] [] q] X.env = (false, eval (.Call (.Name "range" p) [a] [] q) X.env) :: starEach [] X.env := by rfl) : XL X C (.Call (.Name "list" p2) [.Call (.Name "range" p) [a] [] q] [] pos) (iR1 f) :=
  (pe_listRg hc hg2 T.list (prg_1 hg T.range ha na) nb).imp fun σ H Q ⟨ρ, B, S, h⟩ => ⟨ρ, B, S, bindP h fun d _ h v1 B1 H1 x1 t1 => by
    cases t1 with
    | int n =>
      have h2 : pL C B H σ Q (if -1000000 ≤ n ∧ n ≤ 1000000 then .ok (rngD 0 n.toNat) else .no) := h
      by_cases hz : -1000000 ≤ n ∧ n ≤ 1000000
      · rw [if_pos hz] at h2
        refine ⟨n, rfl, ⟨by omega, by omega, by omega, by omega, by omega⟩, fun q hq => ?_⟩
        exact h2 q _ B1 _ (x1.trans (Ext.raw x1.s hq)) (x1.h.free hq) (x1.s.free hq) upd_same (rgV_all n)
      · rw [if_neg hz] at h2
        exact h2.elim
    | _ => exact h.elim⟩

/-! ### targets -/
structure TgOk (K : PySem.W.Frag) (g : Tg) (tg : TG) (is : List Nat) : Prop where
  go : ∀ {C : Cc} {B H : Hp} {v : V} {d : PyData} {σ : L2.St} {ρ ρ' : Env} {Q : L2.St → Hp → Prop}, Stt K C B H σ ρ → Dt B v d → g d ρ = .ok ρ' → (∀ σ', Stt K C B H σ' ρ' → σ'.length = σ.length → (∀ j, j ∉ is → σ'[j]? = σ[j]?) → Q σ' H) → tg v σ H Q
  ne : ∀ d ρ k, g d ρ ≠ .er k
structure XG (X : Cx) (e : Expr) (tg : TG) (g : Tg) (is : List Nat) : Prop where
  pg : PG X e tg
  ok : TgOk X.K g tg is
theorem xg_n (i : Nat) {x : Str} (hN : X.N.Nodup) (hi : X.N[i]? = some x := by rfl) (hx : Loc X.env.scope x := by first | exact Or.inl rfl | exact Or.inr rfl) (hf : X.fn x = true ∨ X.env.scope.names.lookup x = some .local := by first | exact .inl rfl | exact .inr rfl | assumption) :
    XG X (.Name x pos) (gName i) (gN i) [i] := ⟨pg_name hN hi hx hf, ⟨fun {C B H v d σ ρ ρ' Q} S t e k => by
      have e' : ρ.set i (.fz d) = ρ' := by injection e
      subst e'
      exact k _ (S.set i t) (List.length_set ..) (fun j hj => List.getElem?_set_ne (fun q => hj (by simp [q]))), fun _ _ _ h => by cases h⟩⟩
/-- several names -/
structure XGs (X : Cx) (es : List Expr) (tg : TGs) (is : List Nat) : Prop where
  pg : PGs X es tg
  go : ∀ {C : Cc} {B H : Hp} {vs : List V} {ds : List PyData} {σ : L2.St} {ρ : Env} {Q : L2.St → Hp → Prop}, Stt X.K C B H σ ρ → DtAll B vs ds → ds.length = is.length → (∀ σ', Stt X.K C B H σ' (setAll is ds ρ) → σ'.length = σ.length → (∀ j, j ∉ is → σ'[j]? = σ[j]?) → Q σ' H) → tg vs σ H Q
theorem xgs_nil : XGs X [] gNil [] := ⟨pgs_nil, fun {C B H vs ds σ ρ Q} S t hl k => by
  cases ds with
  | nil => cases t; exact ⟨rfl, k σ S rfl fun _ _ => rfl⟩
  | cons _ _ => cases hl⟩
theorem xgs_cons (i : Nat) {x : Str} {p : Pos} {tg : TGs} {is : List Nat} (hN : X.N.Nodup) (h2 : XGs X es tg is) (hi : X.N[i]? = some x := by rfl) (hx : Loc X.env.scope x := by first | exact Or.inl rfl | exact Or.inr rfl) (hf : X.fn x = true ∨ X.env.scope.names.lookup x = some .local := by first | exact .inl rfl | exact .inr rfl | assumption)
    (hs : (assignEach (.Name x p :: es) X.env).map (·.2) = assign (.Name x p) X.env :: (assignEach es X.env).map (·.2) := by rfl) : XGs X (.Name x p :: es) (gCons (gName i) tg) (i :: is) := ⟨pgs_cons (pg_name hN hi hx hf) h2.pg hs, fun {C B H vs ds σ ρ Q} S t hl k => by
  cases ds with
  | nil => cases hl
  | cons d ds =>
    cases t with
    | @cons v vs _ _ t1 t2 =>
      refine ⟨v, vs, rfl, ?_⟩
      refine h2.go (S.set i t1) t2 (by simpa using hl) fun σ' S' hl' hj => k σ' S' (by rw [hl', List.length_set]) fun j hj' => ?_
      rw [hj j (fun q => hj' (List.mem_cons_of_mem _ q)), List.getElem?_set_ne (fun q => hj' (by simp [q]))]⟩
theorem xg_t {kk : Nat} {tg : TGs} {is : List Nat} (hc : X.calm = true) (h : XGs X es tg is) (hn : (assignEach es X.env).length = is.length := by rfl) (hst : (assignEach es X.env).findIdx? (·.1) = none := by rfl) : XG X (.Tuple es kk pos) (gTup X.K is.length tg) (gT is) is :=
  ⟨pg_tup hc h.pg hn hst, ⟨(fun {C B H v d σ ρ ρ' Q} S t e k => by
    cases t with
    | @tup a xs ds h1 h2 =>
      obtain ⟨hl, e'⟩ := if_ok (show (if ds.length = is.length then Rs.ok (setAll is ds ρ) else .no) = .ok ρ' from e)
      subst e'
      exact ⟨a, xs, rfl, SqT.of (S.sm _ _ h1), by rw [h2.len]; exact hl, h.go S h2 hl k⟩
    | _ => cases e), fun d ρ k h => by
      unfold gT at h
      split at h
      · exact if_ne h
      · cases h⟩⟩

/-! ### comprehensions -/
theorem wipe_get {σ : L2.St} : ∀ {vs : List Nat} {i : Nat}, (wipe σ vs)[i]? = if i ∈ vs ∧ i < σ.length then some none else σ[i]?
  | [], i => by simp [wipe]
  | v :: vs, i => by
    have ih := wipe_get (σ := σ) (vs := vs) (i := i)
    unfold wipe
    by_cases h : v = i
    · subst h
      by_cases hl : v < σ.length
      · rw [List.getElem?_set_self (by rw [wipe_length]; exact hl), if_pos ⟨List.mem_cons_self, hl⟩]
      · rw [if_neg (fun q => hl q.2), List.getElem?_eq_none_iff.mpr (by rw [List.length_set, wipe_length]; omega), List.getElem?_eq_none_iff.mpr (by omega)]
    · rw [List.getElem?_set_ne h, ih]
      by_cases q : i ∈ vs ∧ i < σ.length
      · rw [if_pos q, if_pos ⟨List.mem_cons_of_mem _ q.1, q.2⟩]
      · rw [if_neg q, if_neg (fun z => q ⟨(List.mem_cons.mp z.1).elim (fun y => absurd y.symm h) id, z.2⟩)]
theorem wipe_eq {σ σ' : L2.St} {vs is : List Nat} (hl : σ'.length = (wipe σ vs).length) (hj : ∀ j, j ∉ is → σ'[j]? = (wipe σ vs)[j]?) (sub : ∀ i ∈ is, i ∈ vs) : wipe σ' vs = wipe σ vs := by
  rw [wipe_length] at hl
  refine List.ext_getElem? fun i => ?_
  rw [wipe_get, wipe_get, hl]
  by_cases h : i ∈ vs ∧ i < σ.length
  · rw [if_pos h, if_pos h]
  · rw [if_neg h, if_neg h]
    by_cases hi : i ∈ is
    · have hv := sub i hi
      have hn : ¬ i < σ.length := fun q => h ⟨hv, q⟩
      rw [List.getElem?_eq_none_iff.mpr (by omega), List.getElem?_eq_none_iff.mpr (by omega)]
    · rw [hj i hi, wipe_get, if_neg h]
theorem Stt.wipe {K : PySem.W.Frag} {B H : Hp} {σ : L2.St} {ρ : Env} (S : Stt K C B H σ ρ) : ∀ vs : List Nat, Stt K C B H (L2.wipe σ vs) (wipeE ρ vs)
  | [] => S
  | v :: vs => (Stt.wipe S vs).unset v
/-- within a comprehension's block nothing is raised -/
def Cc.blk (C : Cc) : Cc := { C with W := fun _ _ _ _ => False }
theorem Stt.blk {K : PySem.W.Frag} {B H : Hp} {σ : L2.St} {ρ : Env} (S : Stt K C B H σ ρ) : Stt K C.blk B H σ ρ := ⟨S.x, ⟨S.r.len, fun i s e n => by
  obtain ⟨v, h1, h2⟩ := S.r.at' i s e n
  refine ⟨v, h1, ?_⟩
  cases s <;> exact h2, S.r.sep⟩⟩
structure XTs (X : Cx) (C : Cc) (ifs : List Expr) (t : DT) : Prop where
  run : PTs X ifs (tT X.K C t)
theorem _root_.L2.PTs.imp {X : Cx} {ifs : List Expr} {t u : TT} (h : PTs X ifs t) (k : ∀ σ H Q, u σ H Q → t σ H Q) : PTs X ifs u := ⟨fun pins s σ H Q I hq => h.run pins s σ H Q I (k σ H Q hq)⟩
theorem xts_nil : XTs X C [] MS.tYes := ⟨pts_nil.imp fun σ H Q ⟨ρ, B, S, h⟩ => h B H (Ext.refl S.sm)⟩
theorem xts_one {t : DT} (h : XT X C a t) : XTs X C [a] t := ⟨pts_one h⟩
/-- the reading of a comprehension -/
theorem comp_go {K : PySem.W.Frag} {g : Tg} {tg : TG} {is vs : List Nat} {t : DT} {e : DE} (tk : TgOk K g tg is) (sub : ∀ i ∈ is, i ∈ vs) {it : DL} {σ : L2.St} {H : Hp} {Q : VK} (h : tL K C (lComp it g t e vs) σ H Q) :
    tLc (tIb K C it) tg (tT K C.blk t) (tE K C.blk e) vs σ H Q := by
  obtain ⟨ρ, B, S, h⟩ := h
  refine ⟨ρ, B, S, bindP h fun ds _ h J B1 H1 x1 w D hD => ?_⟩
  have h2 : pL C B H σ Q (if ds.length ≤ lim then compGo g t e (wipeE ρ vs) ds else .no) := h
  by_cases hz : ds.length ≤ lim
  · rw [if_pos hz] at h2
    cases eg : compGo g t e (wipeE ρ vs) ds with
    | no => rw [eg] at h2; exact h2.elim
    | er k =>
      exfalso
      have : ∀ ds, compGo g t e (wipeE ρ vs) ds ≠ .er k := by
        intro ds
        induction ds with
        | nil => intro q; cases q
        | cons d ds ih =>
          intro q
          unfold compGo at q
          split at q
          · split at q
            · split at q
              · cases q2 : compGo g t e (wipeE ρ vs) ds with
                | ok zs => rw [q2] at q; cases q
                | er k2 => rw [q2] at q; exact ih (by rw [q2]; injection q with q; rw [q])
                | no => rw [q2] at q; cases q
              · cases q
            · exact ih q
            · cases q
          · cases q
      exact this ds eg
    | ok zs =>
      rw [eg] at h2
      -- the invariant
      let Pv : Nat → Hp → Prop := fun i H' => ∃ B' acc ys rs, Ext B1 H1 B' H' ∧ B' D = none ∧ H' D = some (.lst acc) ∧ DtAll B' acc ys ∧ compGo g t e (wipeE ρ vs) (ds.drop i) = .ok rs ∧ zs = ys ++ rs ∧ ys.length ≤ i
      refine ⟨fun i m H' => m = ds.length - i ∧ i ≤ ds.length ∧ Pv i H', ⟨ds.length, by simp, Nat.zero_le _, B1, [], [], zs, Ext.raw x1.s hD, x1.s.free hD, upd_same, .nil, by rw [List.drop_zero]; exact eg, rfl, Nat.le_refl _⟩, ?_⟩
      rintro i m H' ⟨rfl, hi, B', acc, ys, rs, x2, nD, hD', ta, er, ez, hy⟩
      have sm' := x2.s
      by_cases hlt : i < ds.length
      · have ed : ds[i]? = some ds[i] := List.getElem?_eq_getElem hlt
        have edr : ds.drop i = ds[i] :: ds.drop (i + 1) := List.drop_eq_getElem_cons hlt
        obtain ⟨go, yl⟩ := (w B' H' x2 sm' i).2 _ ed
        refine .inr ⟨go, Pv (i + 1), fun H2 p => ⟨ds.length - (i + 1), by omega, rfl, hlt, p⟩, fun x H2 y => ?_⟩
        obtain ⟨B2, x3, tx⟩ := yl x H2 y
        have Sw : Stt K C.blk B2 H2 (L2.wipe σ vs) (wipeE ρ vs) := ((((S.on x1).on x2).on x3).wipe vs).blk
        have nD2 := none_ext x3 hD' nD
        have hD2 := x3.h _ _ hD'
        rw [edr] at er
        unfold compGo at er
        cases eg1 : g ds[i] (wipeE ρ vs) with
        | er k => exact absurd eg1 (tk.ne _ _ _)
        | no => rw [eg1] at er; cases er
        | ok ρ1 =>
          rw [eg1] at er
          refine tk.go Sw tx eg1 fun σ2 S2 hl2 hj2 => ⟨wipe_eq hl2 hj2 sub, ρ1, B2, S2, ?_⟩
          cases et : t ρ1 with
          | er k => simp only [et] at er; cases er
          | no => simp only [et] at er; cases er
          | ok bb =>
            simp only [et] at er
            intro B3 H3 x4
            cases bb with
            | false =>
              simp only at er
              show Pv (i + 1) H3
              exact ⟨B3, acc, ys, rs, (x2.trans x3).trans x4, none_ext x4 hD2 nD2, x4.h _ _ hD2, (ta.on x3.b).on x4.b, er, ez, by omega⟩
            | true =>
              show tE K C.blk e σ2 H3 _
              simp only at er
              refine ⟨ρ1, B3, S2.on x4, ?_⟩
              cases ee : e ρ1 with
              | er k => rw [ee] at er; cases er
              | no => rw [ee] at er; cases er
              | ok yv =>
                rw [ee] at er
                simp only at er
                intro v4 B4 H4 x5 t5
                have hD4 := x5.h _ _ (x4.h _ _ hD2)
                have nD4 := none_ext x5 (x4.h _ _ hD2) (none_ext x4 hD2 nD2)
                have ta4 := ((ta.on x3.b).on x4.b).on x5.b
                refine ⟨acc, hD4, Nat.lt_of_le_of_lt (Nat.le_of_eq ta.len) (lim_lt (by omega)), ?_⟩
                cases ec : compGo g t e (wipeE ρ vs) (ds.drop (i + 1)) with
                | er k => rw [ec] at er; cases er
                | no => rw [ec] at er; cases er
                | ok r2 =>
                  rw [ec] at er
                  have er' : yv :: r2 = rs := by injection er
                  subst er'
                  have xx : Ext B1 H1 B4 (upd H4 D (.lst (acc ++ [v4]))) := by
                    have x9 := ((x2.trans x3).trans x4).trans x5
                    refine ⟨x9.b, fun c o q => ?_, fun c o q => ?_, x9.n⟩
                    · rw [upd_ne (ne_of_none q hD)]
                      exact x9.h _ _ q
                    · have : c ≠ D := fun z => by rw [z, nD4] at q; cases q
                      rw [upd_ne this]
                      exact x9.s _ _ q
                  exact ⟨B4, acc ++ [v4], ys ++ [yv], r2, xx, nD4, upd_same, ta4.app (.one t5), ec, by rw [ez, List.append_assoc]; rfl, by rw [List.length_append]; show ys.length + 1 ≤ i + 1; omega⟩
      · have e : i = ds.length := by omega
        subst e
        rw [List.drop_length] at er
        have er' : [] = rs := by injection er
        subst er'
        rw [List.append_nil] at ez
        subst ez
        exact .inl ⟨(w B' H' x2 sm' _).1 (Nat.le_refl _), h2 D acc B' H' (x1.trans x2) (x1.h.free hD) nD hD' ta⟩
  · rw [if_neg hz] at h2
    exact h2.elim
theorem sub_of {is vs : List Nat} (h : is.all (fun i => vs.contains i) = true) : ∀ i ∈ is, i ∈ vs := fun i hi => by
  have := List.all_eq_true.mp h i hi
  simpa using this
theorem xl_comp {elt tg iter : Expr} {ifs : List Expr} {scope : Scope} {own : List (Str × Nat)} {it : DL} {g : Tg} {gt : TG} {is : List Nat} {t : DT} {f : DE} (hc : X.calm = true) (hN : X.N.Nodup) (hi : XIb X C tg iter it) (ok : BlkOk X.N X.env.scope scope own)
    (hg : ∀ (s : Shared) (H : Hp) (C0 : Addr) (cl : List (Str × Addr)) (fp : List Addr), XG (X.blk s H scope (compEnvC scope cl C0 X.env) fp) tg gt g is) (ht : ∀ (s : Shared) (H : Hp) (C0 : Addr) (cl : List (Str × Addr)) (fp : List Addr), XTs (X.blk s H scope (compEnvC scope cl C0 X.env) fp) C.blk ifs t)
    (he : ∀ (s : Shared) (H : Hp) (C0 : Addr) (cl : List (Str × Addr)) (fp : List Addr), XE (X.blk s H scope (compEnvC scope cl C0 X.env) fp) C.blk elt f) (sub : is.all (fun i => (own.map (·.2)).contains i) = true := by rfl)
    (hs : ∀ x, foldedSetIterable iter X.env x = pure x := by intro _; rfl) : XL X C (.ListComp elt [⟨tg, iter, ifs, 0⟩] scope pos) (lComp it g t f (own.map (·.2))) :=
  (pe_lc (te := tE X.K C.blk f) (wi := tIb X.K C it) hc hN hi ok (fun s H C0 cl fp => (hg s H C0 cl fp).pg) (fun s H C0 cl fp => (ht s H C0 cl fp).run) (fun s H C0 cl fp => he s H C0 cl fp) hs).imp fun σ H Q h => comp_go (hg {} (fun _ => none) 0 [] []).ok (sub_of sub) h
end
end MS

/-! MsLayF: calls of defs, statements, the rule for a def. -/
namespace MS
open PySem L2 PyProof.Rows

/-! ### the promise of a def -/
abbrev SlAll (K : PySem.W.Frag) (ec : XK → Addr) (B : Hp) : List V → List Sl → Prop := Paired fun v s => SlA K ec B v s
theorem SlAll.on {K : PySem.W.Frag} {ec : XK → Addr} {B B' : Hp} {vs : List V} {ss : List Sl} (h : SlAll K ec B vs ss) (e : Same B B') : SlAll K ec B' vs ss := Paired.mapP h fun _ _ z => SlA.on z e
/-- called with such data it hands back g's, or raises g's error; what stood stands -/
def spD (K : PySem.W.Frag) (ec : XK → Addr) (n : Nat) (g : DF) : Sp := fun vs H Q E => vs.length = n ∧ ∃ B ss, Same B H ∧ SlAll K ec B vs ss ∧ (match g ss with
  | .ok d => ∀ v B' H', Ext B H B' H' → Dt B' v d → Q v H'
  | .er k => ∀ B' H', Ext B H B' H' → E (.ref (ec k)) none H'
  | .no => False)
/-- the def x of the text keeps it -/
structure Fn (P : Program) (w : World) (K : PySem.W.Frag) (mg : Str → Option Value) (base : Heap) (ec : XK → Addr) (x : Str) (ps : List Str) (k : Nat) (g : DF) : Prop where
  ex : ∃ f fd, FnOk P w K mg base (L2.CX P w) k f fd ps (spD K ec ps.length g) ∧ mg x = some (.ref f) ∧ PySem.W.keepIn K (.ref f) = true ∧ Binds K fd ps []

section
variable {X : Cx} {C : Cc} {e a b c : Expr} {es : List Expr} {f g : DE} {fb : DB} {l : DL} {ar : DA} {t : DT} {pos p : Pos}
def pAr (K : PySem.W.Frag) (C : Cc) (B H : Hp) (σ : L2.St) (Q : List V → Hp → Prop) : Rs (List Sl) → Prop := pR C B H σ fun ss => ∀ vs B' H', Ext B H B' H' → SlAll K C.ec B' vs ss → Q vs H'
def tAr (K : PySem.W.Frag) (C : Cc) (f : DA) : TA := fun σ H Q => ∃ ρ B, Stt K C B H σ ρ ∧ pAr K C B H σ Q (f ρ)
def XAr (X : Cx) (C : Cc) (es : List Expr) (f : DA) : Prop := PA X es (tAr X.K C f)
theorem pAr.on {K : PySem.W.Frag} {B H B' H' : Hp} {σ : L2.St} {Q : List V → Hp → Prop} {r : Rs (List Sl)} (h : pAr K C B H σ Q r) (x : Ext B H B' H') : pAr K C B' H' σ Q r := pR.on h x fun _ z v B2 H2 y t => z v B2 H2 (x.trans y) t
theorem xs_nil : XAr X C [] saNil := pa_nil.imp fun σ H Q ⟨ρ, B, S, h⟩ => h [] B H (Ext.refl S.sm) .nil
theorem frzS_of {K : PySem.W.Frag} {B H : Hp} {v : V} {s s' : Sl} (h : SlV K C B H v s) (e : frzS s = .ok s') : SlA K C.ec B v s' := by
  cases s with
  | fz d => have e' : Sl.fz d = s' := by injection e
            subst e'; exact h
  | ex k => have e' : Sl.ex k = s' := by injection e
            subst e'; exact h
  | sc ns => have e' : Sl.sc ns = s' := by injection e
             subst e'; exact h
  | _ => cases e
theorem frzS_ne (s : Sl) (k : XK) : frzS s ≠ .er k := by cases s <;> (intro h; cases h)
theorem xs_cons (ha : XB X C a fb) (hr : XAr X C es ar) (hs : starEach (a :: es) X.env = (false, eval a X.env) :: starEach es X.env := by rfl) : XAr X C (a :: es) (saCons fb ar) :=
  (pa_cons ha hr hs).imp fun σ H Q ⟨ρ, B, S, h⟩ => ⟨ρ, B, S, bindP h fun s _ h v1 B1 H1 x1 t1 => by
    cases e : frzS s with
    | er k => exact absurd e (frzS_ne s k)
    | no => rw [e] at h; exact h.elim
    | ok s' =>
      rw [e] at h
      have t1' := frzS_of t1 e
      exact ⟨ρ, B1, S.on x1, bindP (pAr.on (Q := Q) h x1) fun ss _ h vs B2 H2 x2 t2 => h _ B2 H2 x2 (.cons (t1'.on x2.b) t2)⟩⟩
theorem xe_call {x : Str} {ps : List Str} {k : Nat} {g : DF} (F : Fn X.prog X.w X.K X.mg X.base C.ec x ps k g) (hr : Room k X.A) (ha : XAr X C (e :: es) ar) (tk : Takes X C.W := by first | assumption | exact takes0) (hg : Gl X x := by rfl) (hdb : (x == ("__debug__" : Str)) = false := by decide)
    (hl : (e :: es).length = ps.length := by rfl) (he : starEach (e :: es) X.env = (false, eval e X.env) :: starEach es X.env := by rfl) (hpl : (backTo pos (starEach es X.env)).any (·.1) = false := by rfl) (hn : ∀ ρ ss, ar ρ = .ok ss → ss.length = ps.length) : XE X C (.Call (.Name x p) (e :: es) [] pos) (dCall g ar) := by
  obtain ⟨fa, fd, G, hm, hk, hb⟩ := F.ex
  refine (pe_callS (E := WE C.W) G hr hg hm hk hb (fun σ => passAt tk σ) ha hdb he hpl).imp fun σ H Q ⟨ρ, B, S, h⟩ => ⟨ρ, B, S, bindP h fun ss es h vs B1 H1 x1 t1 => ⟨?_, B1, ss, x1.s, t1, ?_⟩⟩
  · rw [Paired.length t1, hn ρ ss es]
  · have h' := pE.on (Q := Q) h x1
    cases eg : g ss with
    | ok d => rw [eg] at h'; exact h'
    | er k => rw [eg] at h'; exact h'
    | no => rw [eg] at h'; exact h'.elim
theorem sa_len {ar : DA} {fb : DB} {n : Nat} (h : ∀ ρ ss, ar ρ = .ok ss → ss.length = n) : ∀ ρ ss, saCons fb ar ρ = .ok ss → ss.length = n + 1 := fun ρ ss e => by
  unfold saCons at e
  cases e1 : fb ρ with
  | ok s =>
    rw [e1, Rs.bind_ok] at e
    cases e2 : frzS s with
    | ok s' =>
      rw [e2, Rs.bind_ok] at e
      cases e3 : ar ρ with
      | ok ts =>
        rw [e3] at e
        have e' : s' :: ts = ss := by injection e
        subst e'
        rw [List.length_cons, h ρ ts e3]
      | er k => rw [e3] at e; cases e
      | no => rw [e3] at e; cases e
    | er k => rw [e2] at e; cases e
    | no => rw [e2] at e; cases e
  | er k => rw [e1] at e; cases e
  | no => rw [e1] at e; cases e
theorem sa_len0 : ∀ ρ ss, saNil ρ = .ok ss → ss.length = 0 := fun ρ ss e => by
  have e' : ([] : List Sl) = ss := by injection e
  subst e'; rfl

/-! ### statements -/
def pS (K : PySem.W.Frag) (C : Cc) (D : Ends) (B : Hp) : Ou → Prop
  | .nx ρ' => ∀ σ' B' H', Same B B' → Stt K C B' H' σ' ρ' → D.nx σ' H'
  | .rt d => ∀ v B' H', Same B B' → Ext C.B0 C.G B' H' → Dt B' v d → D.rt v H'
  | .bk ρ' => ∀ σ' B' H', Same B B' → Stt K C B' H' σ' ρ' → D.bk σ' H'
  | .ct ρ' => ∀ σ' B' H', Same B B' → Stt K C B' H' σ' ρ' → D.ct σ' H'
  | .er k ρ' => ∀ σ' B' H', Same B B' → Stt K C B' H' σ' ρ' → C.W (.ref (C.ec k)) none σ' H'
  | .no => False
def tS (K : PySem.W.Frag) (C : Cc) (g : DS) : TS := fun D σ H => ∃ ρ B, Stt K C B H σ ρ ∧ pS K C D B (g ρ)
def XS (X : Cx) (C : Cc) (st : Stmt) (g : DS) : Prop := PS X st (tS X.K C g)
def XSs (X : Cx) (C : Cc) (st : List Stmt) (g : DS) : Prop := PSs X st (tS X.K C g)
theorem pS.on {K : PySem.W.Frag} {D : Ends} {B B' : Hp} {o : Ou} (h : pS K C D B o) (s : Same B B') : pS K C D B' o := by
  cases o with
  | nx ρ => exact fun σ' B2 H2 s2 => h σ' B2 H2 (s.trans s2)
  | rt d => exact fun v B2 H2 s2 => h v B2 H2 (s.trans s2)
  | bk ρ => exact fun σ' B2 H2 s2 => h σ' B2 H2 (s.trans s2)
  | ct ρ => exact fun σ' B2 H2 s2 => h σ' B2 H2 (s.trans s2)
  | er k ρ => exact fun σ' B2 H2 s2 => h σ' B2 H2 (s.trans s2)
  | no => exact h
theorem bindS {K : PySem.W.Frag} {D : Ends} {B H : Hp} {σ : L2.St} {ρ : Env} {α : Type} {r : Rs α} {F : α → Ou} {P : α → Prop} (S : Stt K C B H σ ρ) (h : pS K C D B (bE r ρ F)) (k : ∀ a, r = .ok a → pS K C D B (F a) → P a) : pR C B H σ P r := by
  cases r with
  | ok a => exact k a rfl h
  | er k => exact fun B' H' x => h σ B' H' x.b (S.on x)
  | no => exact h
theorem xss_nil : XSs X C [] sNx := pss_nil.imp fun D σ H ⟨ρ, B, S, h⟩ => h σ B H (Same.refl _) S
theorem pS_imp {K : PySem.W.Frag} {D D' : Ends} {B : Hp} {o : Ou} (h : pS K C D B o) (nx : ∀ ρ, o = .nx ρ → pS K C D' B (.nx ρ)) (rt : D'.rt = D.rt) (bk : D'.bk = D.bk) (ct : D'.ct = D.ct) : pS K C D' B o := by
  cases o with
  | nx ρ => exact nx ρ rfl
  | rt d => intro v B2 H2 s2 x t; rw [rt]; exact h v B2 H2 s2 x t
  | bk ρ => intro σ' B2 H2 s2 x; rw [bk]; exact h σ' B2 H2 s2 x
  | ct ρ => intro σ' B2 H2 s2 x; rw [ct]; exact h σ' B2 H2 s2 x
  | er k ρ => exact h
  | no => exact h
theorem xss_cons {st : Stmt} {rest : List Stmt} {g h : DS} (h1 : XS X C st g) (h2 : XSs X C rest h) : XSs X C (st :: rest) (sSeq g h) :=
  (pss_cons h1 h2).imp fun D σ H ⟨ρ, B, S, hh⟩ => ⟨ρ, B, S, by
    cases e : g ρ with
    | nx ρ1 =>
      have h' : pS X.K C D B (h ρ1) := by
        have : sSeq g h ρ = h ρ1 := by unfold sSeq; rw [e]
        rw [← this]; exact hh
      exact fun σ' B' H' s2 S2 => ⟨ρ1, B', S2, h'.on s2⟩
    | rt d => have : sSeq g h ρ = .rt d := by unfold sSeq; rw [e]
              rw [this] at hh; exact hh
    | bk d => have : sSeq g h ρ = .bk d := by unfold sSeq; rw [e]
              rw [this] at hh; exact hh
    | ct d => have : sSeq g h ρ = .ct d := by unfold sSeq; rw [e]
              rw [this] at hh; exact hh
    | er k d => have : sSeq g h ρ = .er k d := by unfold sSeq; rw [e]
                rw [this] at hh; exact hh
    | no => have : sSeq g h ρ = .no := by unfold sSeq; rw [e]
            rw [this] at hh; exact hh⟩
theorem xss_one {st : Stmt} {g : DS} (h1 : XS X C st g) : XSs X C [st] g := pss_one h1
theorem xss_frz (i : Nat) {sts : List Stmt} {g : DS} (h : XSs X C sts g) : XSs X C sts (sSeq (sFrz i) g) := PSs.imp h fun D σ H ⟨ρ, B, S, hh⟩ => by
  by_cases q : ∃ ds, ρ[i]? = some (.ow ds)
  · obtain ⟨ds, e⟩ := q
    obtain ⟨B', s1, S1⟩ := S.frz e
    have e2 : sSeq (sFrz i) g ρ = g (ρ.set i (.fz (.list ds))) := by unfold sSeq sFrz; simp only [e]
    rw [e2] at hh
    exact ⟨_, B', S1, hh.on s1⟩
  · have e2 : sFrz i ρ = .nx ρ := by
      unfold sFrz
      split
      · rename_i ds e; exact absurd ⟨ds, e⟩ q
      · rfl
    have e3 : sSeq (sFrz i) g ρ = g ρ := by unfold sSeq; rw [e2]
    rw [e3] at hh
    exact ⟨ρ, B, S, hh⟩
theorem xs_set (i : Nat) {x : Str} {p' : Pos} (hN : X.N.Nodup) (he : XE X C e f) (hi : X.N[i]? = some x := by rfl) (hx : Loc X.env.scope x := by first | exact Or.inl rfl | exact Or.inr rfl) (hs : swapsWith e (some (.Name x p')) pos.line X.env = pure false := by rfl) (hf : X.fn x = true ∨ X.env.scope.names.lookup x = some .local := by first | exact .inl rfl | exact .inr rfl | assumption) :
    XS X C (.Assign [.Name x p'] e pos) (sSet i f) := (ps_set hN hi hx he hs hf).imp fun D σ H ⟨ρ, B, S, h⟩ => ⟨ρ, B, S, bindS S h fun d _ h v B1 H1 x1 t1 => h _ B1 H1 x1.b ((S.on x1).set i t1)⟩
theorem Stt.setL {K : PySem.W.Frag} {B H B' H' : Hp} {σ : L2.St} {ρ : Env} {a : Addr} {s : Sl} (S : Stt K C B H σ ρ) (i : Nat) (x : Ext B H B' H') (hn : H a = none) (ho : s.own = true) (hs : SlV K C B' H' (.ref a) s) : Stt K C B' H' (σ.set i (some (.ref a))) (ρ.set i s) := by
  have S1 := S.on x
  have far : ∀ (j : Nat) (t : Sl), ρ[j]? = some t → t.own = true → σ[j]? = some (some (V.ref a)) → False := fun j t e ot f => by
    obtain ⟨b, u, g1, g2, _⟩ := S.ownAt e ot
    rw [f] at g1
    injection g1 with g1; injection g1 with g1; injection g1 with g1
    subst g1
    rw [hn] at g2; cases g2
  refine ⟨S1.x, ⟨by rw [List.length_set, List.length_set]; exact S1.r.len, fun j t e n => ?_, fun j k t u w hjk e1 e2 o1 o2 f1 f2 => ?_⟩⟩
  · rcases get_set_some e with ⟨q, rfl, hl⟩ | ⟨q, e⟩
    · subst q
      exact ⟨.ref a, List.getElem?_set_self (by rw [S.r.len]; exact hl), hs⟩
    · rw [List.getElem?_set_ne q]
      exact S1.r.at' j t e n
  · rcases get_set_some e1 with ⟨q1, hts, hl⟩ | ⟨q1, e1⟩
    · subst q1
      rw [List.getElem?_set_self (by rw [S.r.len]; exact hl)] at f1
      have f1' : V.ref a = w := Option.some.inj (Option.some.inj f1)
      subst f1'
      rcases get_set_some e2 with ⟨q2, _, _⟩ | ⟨q2, e2⟩
      · exact hjk q2
      · rw [List.getElem?_set_ne q2] at f2
        exact far k u e2 o2 f2
    · rw [List.getElem?_set_ne q1] at f1
      rcases get_set_some e2 with ⟨q2, hts, hl⟩ | ⟨q2, e2⟩
      · subst q2
        rw [List.getElem?_set_self (by rw [S.r.len]; exact hl)] at f2
        have f2' : V.ref a = w := Option.some.inj (Option.some.inj f2)
        subst f2'
        exact far j t e1 o1 f1
      · rw [List.getElem?_set_ne q2] at f2
        exact S.r.sep j k t u w hjk e1 e2 o1 o2 f1 f2
theorem xs_own (i : Nat) {x : Str} {p' : Pos} (hN : X.N.Nodup) (he : XL X C e l) (hi : X.N[i]? = some x := by rfl) (hx : Loc X.env.scope x := by first | exact Or.inl rfl | exact Or.inr rfl) (hs : swapsWith e (some (.Name x p')) pos.line X.env = pure false := by rfl) (hf : X.fn x = true ∨ X.env.scope.names.lookup x = some .local := by first | exact .inl rfl | exact .inr rfl | assumption) :
    XS X C (.Assign [.Name x p'] e pos) (sOwn i l) := (ps_set hN hi hx he hs hf).imp fun D σ H ⟨ρ, B, S, h⟩ => ⟨ρ, B, S, bindS S h fun ds _ h a xs B1 H1 x1 n1 n2 h1 t1 => h _ B1 H1 x1.b (S.setL i x1 n1 rfl ⟨a, xs, rfl, h1, n2, S.x.h.free n1, t1⟩)⟩
theorem xs_tg {tg : Expr} {g : Tg} {gt : TG} {is : List Nat} (hg : XG X tg gt g is) (he : XE X C e f) (hs : swapsWithSole [tg] e pos.line X.env = pure false := by rfl) (hw : swappedStores [tg] e X.env = pure none := by rfl)
    (h1 : (assignEach [tg] X.env).map (·.2) = [assign tg X.env] := by rfl) : XS X C (.Assign [tg] e pos) (sTg g f) := (ps_asg he hg.pg hs hw h1).imp fun D σ H ⟨ρ, B, S, h⟩ => ⟨ρ, B, S, bindS S h fun d _ h v B1 H1 x1 t1 => by
  cases eg : g d ρ with
  | er k => exact absurd eg (hg.ok.ne _ _ _)
  | no => rw [eg] at h; exact h.elim
  | ok ρ' =>
    rw [eg] at h
    exact hg.ok.go (S.on x1) t1 eg fun σ' S' _ _ => h σ' B1 H1 x1.b S'⟩
theorem xs_expr (he : XE X C e f) (hs : swapsWith e none pos.line X.env = pure false := by rfl) : XS X C (.Expr e pos) (sExpr f) := (ps_expr he hs).imp fun D σ H ⟨ρ, B, S, h⟩ => ⟨ρ, B, S, bindS S h fun d _ h v B1 H1 x1 t1 => h σ B1 H1 x1.b (S.on x1)⟩
theorem xs_ret (he : XE X C e f) : XS X C (.Return (some e) pos) (sRet f) := (ps_ret he).imp fun D σ H ⟨ρ, B, S, h⟩ => ⟨ρ, B, S, bindS S h fun d _ h v B1 H1 x1 t1 => h v B1 H1 x1.b (S.on x1).x t1⟩
theorem xs_if {sa sb : List Stmt} {ga gb : DS} (hc : XT X C c t) (ha : XSs X C sa ga) (hb : XSs X C sb gb) : XS X C (.If c sa sb pos) (sIf t ga gb) := (ps_if hc ha hb).imp fun D σ H ⟨ρ, B, S, h⟩ => ⟨ρ, B, S, bindS S h fun k _ h B1 H1 x1 => by
  cases k with
  | true => exact ⟨ρ, B1, S.on x1, pS.on (o := ga ρ) h x1.b⟩
  | false => exact ⟨ρ, B1, S.on x1, pS.on (o := gb ρ) h x1.b⟩⟩
theorem own_list {K : PySem.W.Frag} {B H : Hp} {σ : L2.St} {ρ : Env} {i : Nat} {ds : List PyData} (S : Stt K C B H σ ρ) (e : ρ[i]? = some (.ow ds)) : ∃ a xs, σ[i]? = some (some (.ref a)) ∧ H a = some (.lst xs) ∧ B a = none ∧ C.G a = none ∧ DtAll B xs ds := by
  obtain ⟨v, h1, a, xs, rfl, z1, z2, z3, z4⟩ := S.r.at' i _ e (by intro q; cases q)
  exact ⟨a, xs, h1, z1, z2, z3, z4⟩
theorem xs_app (i : Nat) {x : Str} {apos cpos xp : Pos} (he : XE X C e f) (hN : X.N[i]? = some x := by rfl) (hv : Vis X.env.scope x := by first | exact Or.inl rfl | exact Or.inr (Or.inl rfl) | exact Or.inr (Or.inr rfl)) (hd : (x == ("__debug__" : Str)) = false := by decide) (hcd : (x == ("__classdict__" : Str)) = false := by decide)
    (hst : starEach (e :: []) X.env = (false, eval e X.env) :: starEach [] X.env := by rfl) (hb : attributeBase (.Name x xp) "append" X.env (eval (.Name x xp) X.env) = eval (.Name x xp) X.env := by rfl)
    (hfew : ((backTo cpos (starEach (e :: []) X.env)).all (fun x => !x.1) && (backToKw cpos (keywordEach [] X.env)).all (fun x => x.1.isSome) && decide ((e :: []).length + ([] : List Keyword).length + (if ([] : List Keyword).isEmpty then 0 else 1) < 30)) = true := by rfl)
    (hline : (apos.endLine == cpos.line) = true := by rfl)
    (hs : swapsWith (.Call (.Attribute (.Name x xp) "append" apos) [e] [] cpos) none pos.line X.env = pure false := by rfl) :
    XS X C (.Expr (.Call (.Attribute (.Name x xp) "append" apos) [e] [] cpos) pos) (sApp i f) :=
  (ps_expr (pe_bm PySem.F.plainAttrs_list PySem.F.slot_list_append PySem.F.type_list_append mt_append (pe_var hN hv hd hcd) (pa_cons he pa_nil hst) hb hfew hline hst rfl) hs).imp fun D σ H ⟨ρ, B, S, h⟩ => by
    unfold sApp at h
    split at h
    · rename_i ds e
      obtain ⟨a, xs, z1, z2, z3, z4, z5⟩ := own_list S e
      refine ⟨.ref a, z1, .inl ⟨rfl, xs, SqL.of z2⟩, ρ, B, S, bindS S h fun d _ h v B1 H1 x1 t1 => ?_⟩
      have S1 := S.on x1
      have z2' := x1.h _ _ z2
      by_cases hz : ds.length < lim
      · rw [if_pos hz] at h
        refine ⟨a, xs, v, rfl, rfl, z2', by rw [z5.len]; exact lim_lt (Nat.le_of_lt hz), ?_⟩
        exact h σ B1 _ x1.b (S1.mut e rfl z1 rfl ⟨a, _, rfl, upd_same, none_ext x1 z2 z3, z4, (z5.on x1.b).app (.one t1)⟩)
      · rw [if_neg hz] at h
        exact h.elim
    · exact h.elim
theorem xs_ext (i : Nat) {x : Str} {apos cpos xp : Pos} (he : XL X C e l) (hN : X.N[i]? = some x := by rfl) (hv : Vis X.env.scope x := by first | exact Or.inl rfl | exact Or.inr (Or.inl rfl) | exact Or.inr (Or.inr rfl)) (hd : (x == ("__debug__" : Str)) = false := by decide) (hcd : (x == ("__classdict__" : Str)) = false := by decide)
    (hst : starEach (e :: []) X.env = (false, eval e X.env) :: starEach [] X.env := by rfl) (hb : attributeBase (.Name x xp) "extend" X.env (eval (.Name x xp) X.env) = eval (.Name x xp) X.env := by rfl)
    (hfew : ((backTo cpos (starEach (e :: []) X.env)).all (fun x => !x.1) && (backToKw cpos (keywordEach [] X.env)).all (fun x => x.1.isSome) && decide ((e :: []).length + ([] : List Keyword).length + (if ([] : List Keyword).isEmpty then 0 else 1) < 30)) = true := by rfl)
    (hline : (apos.endLine == cpos.line) = true := by rfl)
    (hs : swapsWith (.Call (.Attribute (.Name x xp) "extend" apos) [e] [] cpos) none pos.line X.env = pure false := by rfl) :
    XS X C (.Expr (.Call (.Attribute (.Name x xp) "extend" apos) [e] [] cpos) pos) (sExt i l) :=
  (ps_expr (pe_bm PySem.F.plainAttrs_list PySem.F.slot_list_extend PySem.F.type_list_extend mt_extend (pe_var hN hv hd hcd) (pa_cons he pa_nil hst) hb hfew hline hst rfl) hs).imp fun D σ H ⟨ρ, B, S, h⟩ => by
    unfold sExt at h
    split at h
    · rename_i ds e
      obtain ⟨a, xs, z1, z2, z3, z4, z5⟩ := own_list S e
      refine ⟨.ref a, z1, .inl ⟨rfl, xs, SqL.of z2⟩, ρ, B, S, bindS S h fun es _ h b ys B1 H1 x1 n1 n2 h1 t1 => ?_⟩
      have S1 := S.on x1
      have z2' := x1.h _ _ z2
      by_cases hz : ds.length + es.length ≤ lim
      · rw [if_pos hz] at h
        refine ⟨a, b, xs, ys, rfl, rfl, z2', h1, by rw [z5.len, t1.len]; exact lim_le hz, ?_⟩
        exact h σ B1 _ x1.b (S1.mut e rfl z1 rfl ⟨a, _, rfl, upd_same, none_ext x1 z2 z3, z4, (z5.on x1.b).app t1⟩)
      · rw [if_neg hz] at h
        exact h.elim
    · exact h.elim
theorem getLast_D {B : Hp} {vs : List V} {ds : List PyData} {d : PyData} (h : DtAll B vs ds) (e : ds.getLast? = some d) : ∃ v, vs[vs.length - 1]? = some v ∧ Dt B v d := by
  rw [List.getLast?_eq_getElem?] at e
  rw [h.len]
  exact h.getD e
theorem xs_pop (j i : Nat) {x y : Str} {apos cpos xp p' : Pos} (hN : X.N.Nodup) (hi : X.N[i]? = some x := by rfl) (hj : X.N[j]? = some y := by rfl) (hv : Vis X.env.scope x := by first | exact Or.inl rfl | exact Or.inr (Or.inl rfl) | exact Or.inr (Or.inr rfl)) (hd : (x == ("__debug__" : Str)) = false := by decide) (hcd : (x == ("__classdict__" : Str)) = false := by decide)
    (hb : attributeBase (.Name x xp) "pop" X.env (eval (.Name x xp) X.env) = eval (.Name x xp) X.env := by rfl) (hline : (apos.endLine == cpos.line) = true := by rfl) (hx : Loc X.env.scope y := by first | exact Or.inl rfl | exact Or.inr rfl)
    (hs : swapsWith (.Call (.Attribute (.Name x xp) "pop" apos) [] [] cpos) (some (.Name y p')) pos.line X.env = pure false := by rfl) (hf : X.fn y = true ∨ X.env.scope.names.lookup y = some .local := by first | exact .inl rfl | exact .inr rfl | assumption) :
    XS X C (.Assign [.Name y p'] (.Call (.Attribute (.Name x xp) "pop" apos) [] [] cpos) pos) (sPop j i) :=
  (ps_set hN hj hx (pe_bm0 PySem.F.plainAttrs_list PySem.F.slot_list_pop PySem.F.type_list_pop mt_pop (pe_var hi hv hd hcd) hb hline) hs hf).imp fun D σ H ⟨ρ, B, S, h⟩ => by
    unfold sPop at h
    split at h
    · rename_i ds e
      obtain ⟨a, xs, z1, z2, z3, z4, z5⟩ := own_list S e
      split at h
      · rename_i d ed
        obtain ⟨v, hv, tv⟩ := getLast_D z5 ed
        refine ⟨.ref a, z1, .inl ⟨rfl, xs, SqL.of z2⟩, a, xs, v, rfl, rfl, z2, hv, ?_⟩
        exact h _ B _ (Same.refl _) ((S.mut (o := .lst xs.dropLast) e rfl z1 rfl (t := .ow ds.dropLast) ⟨a, _, rfl, upd_same, z3, z4, z5.init⟩).set j tv)
      · exact h.elim
    · exact h.elim
theorem xs_for {tg iter : Expr} {body : List Stmt} {it : DL} {g : Tg} {gt : TG} {is : List Nat} {bd : DS} (hi : XI X C tg iter it) (hg : XG X tg gt g is) (hb : XSs X C body bd) (pw : PassesOwn (model X.prog X.w) X.A X.env X.xe := by assumption) (hc : X.calm = true := by rfl)
    (hs : ∀ x, foldedSetIterable iter X.env x = pure x := by intro _; rfl) : XS X C (.For tg iter body [] pos) (sFor it g bd) :=
  (ps_for pw hc hi hg.pg hb hs).imp fun D σ H ⟨ρ, B, S, h⟩ => ⟨ρ, B, S, bindS S h fun ds _ h J B1 H1 x1 w => by
    refine ⟨fun i m σ' H' => m = ds.length - i ∧ i ≤ ds.length ∧ ∃ ρ' B', Same B1 B' ∧ Stt X.K C B' H' σ' ρ' ∧ pS X.K C D B' (loopGo g bd (ds.drop i) ρ'), ⟨ds.length, by simp, Nat.zero_le _, ρ, B1, Same.refl _, S.on x1, by rw [List.drop_zero]; exact pS.on h x1.b⟩, ?_⟩
    rintro i m σ' H' ⟨rfl, hi, ρ', B', sb, S', h'⟩
    by_cases hlt : i < ds.length
    · have ed : ds[i]? = some ds[i] := List.getElem?_eq_getElem hlt
      have edr : ds.drop i = ds[i] :: ds.drop (i + 1) := List.drop_eq_getElem_cons hlt
      obtain ⟨go, yl⟩ := (w B' H' sb S'.sm i).2 _ ed
      refine .inr ⟨go, fun σ2 H2 => ∃ ρ2 B2, Same B1 B2 ∧ Stt X.K C B2 H2 σ2 ρ2 ∧ pS X.K C D B2 (loopGo g bd (ds.drop (i + 1)) ρ2), fun σ2 H2 p => ⟨ds.length - (i + 1), by omega, rfl, hlt, p⟩, fun x H2 y => ?_⟩
      obtain ⟨B2, x3, tx⟩ := yl x H2 y
      rw [edr] at h'
      unfold loopGo at h'
      cases eg : g ds[i] ρ' with
      | er k => exact absurd eg (hg.ok.ne _ _ _)
      | no => rw [eg] at h'; exact h'.elim
      | ok ρ1 =>
        rw [eg] at h'
        simp only [bE_ok] at h'
        refine hg.ok.go (S'.on x3) tx eg fun σ2 S2 _ _ => ⟨ρ1, B2, S2, ?_⟩
        have sb2 := sb.trans x3.b
        cases eb : bd ρ1 with
        | nx ρ2 =>
          rw [eb] at h'
          exact fun σ3 B3 H3 s3 S3 => ⟨ρ2, B3, sb2.trans s3, S3, pS.on h' (x3.b.trans s3)⟩
        | ct ρ2 =>
          rw [eb] at h'
          exact fun σ3 B3 H3 s3 S3 => ⟨ρ2, B3, sb2.trans s3, S3, pS.on h' (x3.b.trans s3)⟩
        | bk ρ2 =>
          rw [eb] at h'
          exact fun σ3 B3 H3 s3 S3 => h' σ3 B3 H3 (x3.b.trans s3) S3
        | rt d =>
          rw [eb] at h'
          exact fun v B3 H3 s3 x t => h' v B3 H3 (x3.b.trans s3) x t
        | er k ρ2 =>
          rw [eb] at h'
          exact fun σ3 B3 H3 s3 S3 => h' σ3 B3 H3 (x3.b.trans s3) S3
        | no => rw [eb] at h'; exact h'.elim
    · have e : i = ds.length := by omega
      subst e
      rw [List.drop_length] at h'
      exact .inl ⟨(w B' H' sb S'.sm _).1 (Nat.le_refl _), h' σ' B' H' (Same.refl _) S'⟩⟩
theorem xs_while {body : List Stmt} {bd : DS} {n : Nat} (hc : XT X C c t) (hb : XSs X C body bd) (pw : PassesOwn (model X.prog X.w) X.A X.env X.xe := by assumption) : XS X C (.While c body [] pos) (sWhile t bd n) :=
  (ps_while pw hc hb).imp fun D σ H ⟨ρ, B, S, h⟩ => by
    refine ⟨fun m σ' H' => ∃ ρ' B', Stt X.K C B' H' σ' ρ' ∧ pS X.K C D B' (sWhile t bd m ρ'), ⟨n, ρ, B, S, h⟩, ?_⟩
    rintro m σ' H' ⟨ρ', B', S', h'⟩
    cases m with
    | zero => exact h'.elim
    | succ m =>
      refine ⟨ρ', B', S', bindS S' h' fun k _ h' B2 H2 x2 => ?_⟩
      cases k with
      | false =>
        show D.nx σ' H2
        exact h' σ' B2 H2 x2.b (S'.on x2)
      | true =>
        refine ⟨fun σ3 H3 => ∃ ρ3 B3, Stt X.K C B3 H3 σ3 ρ3 ∧ pS X.K C D B3 (sWhile t bd m ρ3), fun σ3 H3 p => ⟨m, Nat.lt_succ_self m, p⟩, ρ', B2, S'.on x2, ?_⟩
        have h2 := pS.on h' x2.b
        rw [if_pos rfl] at h2
        cases eb : bd ρ' with
        | nx ρ2 =>
          rw [eb] at h2
          exact fun σ3 B3 H3 s3 S3 => ⟨ρ2, B3, S3, pS.on h2 s3⟩
        | ct ρ2 =>
          rw [eb] at h2
          exact fun σ3 B3 H3 s3 S3 => ⟨ρ2, B3, S3, pS.on h2 s3⟩
        | bk ρ2 =>
          rw [eb] at h2
          exact fun σ3 B3 H3 s3 S3 => h2 σ3 B3 H3 s3 S3
        | rt d =>
          rw [eb] at h2
          exact fun v B3 H3 s3 x t => h2 v B3 H3 s3 x t
        | er k ρ2 =>
          rw [eb] at h2
          exact fun σ3 B3 H3 s3 S3 => h2 σ3 B3 H3 s3 S3
        | no => rw [eb] at h2; exact h2.elim
theorem xs_setlc (i : Nat) {y : Str} {py spos : Pos} {elt tg iter : Expr} {ifs : List Expr} {scope : Scope} {own : List (Str × Nat)} {it : DL} {g : Tg} {gt : TG} {is : List Nat} {t : DT} {f : DE} (hc : X.calm = true) (hN : X.N.Nodup) (hy : X.N[i]? = some y) (hyl : X.env.scope.names.lookup y = some .local)
    (hsw : swapsWith (.ListComp elt [⟨tg, iter, ifs, 0⟩] scope pos) (some (.Name y py)) spos.line X.env = pure true) (hi : XIb X C tg iter it) (ok : BlkOk X.N X.env.scope scope own)
    (hg : ∀ (s : Shared) (H : Hp) (C0 : Addr) (cl : List (Str × Addr)) (fp : List Addr), XG (X.blk s H scope (compEnvC scope cl C0 X.env) fp) tg gt g is) (ht : ∀ (s : Shared) (H : Hp) (C0 : Addr) (cl : List (Str × Addr)) (fp : List Addr), XTs (X.blk s H scope (compEnvC scope cl C0 X.env) fp) C.blk ifs t)
    (he : ∀ (s : Shared) (H : Hp) (C0 : Addr) (cl : List (Str × Addr)) (fp : List Addr), XE (X.blk s H scope (compEnvC scope cl C0 X.env) fp) C.blk elt f) (sub : is.all (fun i => (own.map (·.2)).contains i) = true := by rfl)
    (hs : ∀ x, foldedSetIterable iter X.env x = pure x := by intro _; rfl) : XS X C (.Assign [.Name y py] (.ListComp elt [⟨tg, iter, ifs, 0⟩] scope pos) spos) (sSet i (dLst (lComp it g t f (own.map (·.2))))) :=
  (ps_setLc (te := tE X.K C.blk f) (wi := tIb X.K C it) hc hN hy hyl hsw hi ok (fun s H C0 cl fp => (hg s H C0 cl fp).pg) (fun s H C0 cl fp => (ht s H C0 cl fp).run) (fun s H C0 cl fp => he s H C0 cl fp) hs).imp fun D σ H ⟨ρ, B, S, h⟩ => by
    refine comp_go (t := t) (hg {} (fun _ => none) 0 [] []).ok (sub_of sub) ⟨ρ, B, S, ?_⟩
    have h2 : pS X.K C D B (bE ((lComp it g t f (own.map (·.2)) ρ).bind fun ds => .ok (.list ds)) ρ fun d => .nx (ρ.set i (.fz d))) := h
    cases el : lComp it g t f (own.map (·.2)) ρ with
    | ok ds =>
      rw [el] at h2
      intro a xs B1 H1 x1 n1 n2 h1 t1
      obtain ⟨B2, x2, t2⟩ := lst_frz x1 n1 n2 h1 t1
      exact h2 _ B2 H1 x2.b ((S.on x2).set i t2)
    | er k => rw [el] at h2; exact fun B' H' x => h2 σ B' H' x.b (S.on x)
    | no => rw [el] at h2; exact h2.elim
theorem xs_ownlc (i : Nat) {y : Str} {py spos : Pos} {elt tg iter : Expr} {ifs : List Expr} {scope : Scope} {own : List (Str × Nat)} {it : DL} {g : Tg} {gt : TG} {is : List Nat} {t : DT} {f : DE} (hc : X.calm = true) (hN : X.N.Nodup) (hy : X.N[i]? = some y) (hyl : X.env.scope.names.lookup y = some .local)
    (hsw : swapsWith (.ListComp elt [⟨tg, iter, ifs, 0⟩] scope pos) (some (.Name y py)) spos.line X.env = pure true) (hi : XIb X C tg iter it) (ok : BlkOk X.N X.env.scope scope own)
    (hg : ∀ (s : Shared) (H : Hp) (C0 : Addr) (cl : List (Str × Addr)) (fp : List Addr), XG (X.blk s H scope (compEnvC scope cl C0 X.env) fp) tg gt g is) (ht : ∀ (s : Shared) (H : Hp) (C0 : Addr) (cl : List (Str × Addr)) (fp : List Addr), XTs (X.blk s H scope (compEnvC scope cl C0 X.env) fp) C.blk ifs t)
    (he : ∀ (s : Shared) (H : Hp) (C0 : Addr) (cl : List (Str × Addr)) (fp : List Addr), XE (X.blk s H scope (compEnvC scope cl C0 X.env) fp) C.blk elt f) (sub : is.all (fun i => (own.map (·.2)).contains i) = true := by rfl)
    (hs : ∀ x, foldedSetIterable iter X.env x = pure x := by intro _; rfl) : XS X C (.Assign [.Name y py] (.ListComp elt [⟨tg, iter, ifs, 0⟩] scope pos) spos) (sOwn i (lComp it g t f (own.map (·.2)))) :=
  (ps_setLc (te := tE X.K C.blk f) (wi := tIb X.K C it) hc hN hy hyl hsw hi ok (fun s H C0 cl fp => (hg s H C0 cl fp).pg) (fun s H C0 cl fp => (ht s H C0 cl fp).run) (fun s H C0 cl fp => he s H C0 cl fp) hs).imp fun D σ H ⟨ρ, B, S, h⟩ => by
    refine comp_go (t := t) (hg {} (fun _ => none) 0 [] []).ok (sub_of sub) ⟨ρ, B, S, ?_⟩
    have h2 : pS X.K C D B (bE (lComp it g t f (own.map (·.2)) ρ) ρ fun ds => .nx (ρ.set i (.ow ds))) := h
    cases el : lComp it g t f (own.map (·.2)) ρ with
    | ok ds =>
      rw [el] at h2
      intro a xs B1 H1 x1 n1 n2 h1 t1
      exact h2 _ B1 H1 x1.b (S.setL i x1 n1 rfl ⟨a, xs, rfl, h1, n2, S.x.h.free n1, t1⟩)
    | er k => rw [el] at h2; exact fun B' H' x => h2 σ B' H' x.b (S.on x)
    | no => rw [el] at h2; exact h2.elim
end

/-! ### the rule for a def -/
theorem start_get {N : List Str} {vs : List V} {i : Nat} (h : i < vs.length) : (L2.start N vs)[i]? = (vs.map some)[i]? := by
  unfold L2.start
  rw [List.getElem?_append_left (by rw [List.length_map]; exact h)]
theorem stt_start {K : PySem.W.Frag} {C : Cc} {N : List Str} {vs : List V} {ss : List Sl} (sm : Same C.B0 C.G) (ha : SlAll K C.ec C.B0 vs ss) (hn : vs.length ≤ N.length) : Stt K C C.B0 C.G (L2.start N vs) (ss ++ List.replicate (N.length - ss.length) .nil) := by
  have hl := Paired.length ha
  have at_ : ∀ (i : Nat) (s : Sl), (ss ++ List.replicate (N.length - ss.length) Sl.nil)[i]? = some s → (∃ v, vs[i]? = some v ∧ SlA K C.ec C.B0 v s) ∨ s = .nil := fun i s e => by
    by_cases h : i < ss.length
    · rw [List.getElem?_append_left h] at e
      have : ∀ {vs : List V} {ss : List Sl} {i : Nat} {s : Sl}, SlAll K C.ec C.B0 vs ss → ss[i]? = some s → ∃ v, vs[i]? = some v ∧ SlA K C.ec C.B0 v s := by
        intro vs ss i s h e
        induction h generalizing i with
        | nil => simp at e
        | cons r t ih =>
          cases i with
          | zero => simp at e; subst e; exact ⟨_, rfl, r⟩
          | succ i => exact ih (by simpa using e)
      exact .inl (this ha e)
    · rw [List.getElem?_append_right (by omega), List.getElem?_replicate] at e
      split at e
      · exact .inr (Option.some.inj e).symm
      · cases e
  refine ⟨Ext.refl sm, ⟨?_, fun i s e n => ?_, fun i j s t v hij e1 e2 o1 _ _ _ => ?_⟩⟩
  · unfold L2.start
    rw [List.length_append, List.length_append, List.length_map, List.length_replicate, List.length_replicate]
    omega
  · rcases at_ i s e with ⟨v, h1, h2⟩ | h
    · refine ⟨v, ?_, SlV.ofA h2⟩
      have hi := (List.getElem?_eq_some_iff.mp h1).1
      rw [start_get hi, List.getElem?_map, h1]
      rfl
    · exact absurd h n
  · rcases at_ i s e1 with ⟨v, h1, h2⟩ | h
    · cases s with
      | ow _ => exact h2.elim
      | dc _ => exact h2.elim
      | _ => cases o1
    · subst h; cases o1
theorem okD {P : Program} {w : World} {K : PySem.W.Frag} {mg : Str → Option Value} {base : Heap} {ec : XK → Addr} {x qual : Str} {st : Stmt} {f : Addr} {fd : FuncData} {N ps : List Str} {k : Nat} {g : DS} (F : L2.Fun K x qual st f fd) (S : FnScope N ps (defScope st)) (hps : ps.length ≤ N.length)
    (body : ∀ (cdv : Value) (A : Around) (outer : List PySem.Env) (s : Shared) (H B : Hp) (E : L2.XK), Room k (A.deeper (envOfC qual (defScope st) s.heap.objs.size f cdv)) →
      Takes (cxOf (L2.CX P w) P w K mg base N qual (defScope st) f cdv A outer s H E) (fun cls d _ H' => E cls d H') → PassesOwn (model P w) (A.deeper (envOfC qual (defScope st) s.heap.objs.size f cdv)) (envOfC qual (defScope st) s.heap.objs.size f cdv) (cxOf (L2.CX P w) P w K mg base N qual (defScope st) f cdv A outer s H E).xe →
      XSs (cxOf (L2.CX P w) P w K mg base N qual (defScope st) f cdv A outer s H E) { G := H, B0 := B, W := fun cls d _ H' => E cls d H', ec := ec } (defBody st) g) :
    FnOk P w K mg base (L2.CX P w) (k + 1) f fd ps (spD K ec ps.length (runD g N.length)) := by
  refine F.okX S (fun vs H Q E h => h.1) (fun cdv A outer s H vs Q E hr hsp => ?_)
  obtain ⟨hlen, B, ss, sm, ha, post⟩ := hsp
  refine ⟨_, body cdv A outer s H B E hr (takes_of rfl rfl rfl rfl) (passes_of (X := cxOf (L2.CX P w) P w K mg base N qual (defScope st) f cdv A outer s H E) rfl), _, B, stt_start (C := { G := H, B0 := B, W := fun cls d _ H' => E cls d H', ec := ec }) sm ha (by omega), ?_⟩
  unfold runD at post
  cases eg : g (ss ++ List.replicate (N.length - ss.length) .nil) with
  | nx ρ' => rw [eg] at post; exact fun σ' B' H' _ S' => post _ B' H' S'.x .non
  | rt d => rw [eg] at post; exact fun v B' H' _ x t => post v B' H' x t
  | er k ρ' => rw [eg] at post; exact fun σ' B' H' _ S' => post B' H' S'.x
  | bk ρ' => rw [eg] at post; exact post.elim
  | ct ρ' => rw [eg] at post; exact post.elim
  | no => rw [eg] at post; exact post.elim
/-- the def's part of the text, its place -/
theorem fnD {P : Program} {w : World} {K : PySem.W.Frag} {mg : Str → Option Value} {base : Heap} {ec : XK → Addr} {x qual : Str} {st : Stmt} {f : Addr} {fd : FuncData} {ps : List Str} {k : Nat} {g : DF} (F : L2.Fun K x qual st f fd) (hm : mg x = some (.ref f)) (hb : Binds K fd ps []) (h : FnOk P w K mg base (L2.CX P w) k f fd ps (spD K ec ps.length g)) : Fn P w K mg base ec x ps k g := ⟨f, fd, h, hm, F.kp, hb⟩
end MS

/-! MsLayG: sorted, sets, raise, try. -/
namespace PySem.W
open PySem PySem.Calls PyProof.Rows
section
variable {prog : Program} {w : World} {A : Around} {E : Value → Shared → Prop} {s : Shared}
theorem ms_collect_tup {l : Addr} {vs : List Value} {Q : List Value → Shared → Prop} (hl : IsTup s.heap l vs.toArray)
    (h : Q vs { s with heap := (s.heap.push (seqObj "list" #[] 0)).update s.heap.objs.size (Obj.mapSeq (· ++ vs.toArray)) }) (hsz : vs.length ≤ sizeLine) :
    wpAny (model prog w) A (collect (.ref l)) Q E s := by
  obtain ⟨o, ho, hc, n, hd⟩ := id hl
  unfold collect
  refine wpAny_bind (wpAny_runValue (codeAny_builtin entry_proto_collect' ?_))
  show wpAny _ _ (do again (.builtin "list.__iadd__" ⟨[← newList [], .ref l], []⟩)) _ _ s
  refine wpAny_bind (wpAny_newList (wpAny_pure ⟨Code.quiet_builtin _ (by decide +kernel), codeAny_builtin entry_list_iadd' ?_⟩))
  show wpAny _ _ (Builtin.List.listExtendWith (.ref s.heap.objs.size) (.ref l) (.ref s.heap.objs.size)) _ _ { s with heap := s.heap.push (seqObj "list" #[] 0) }
  unfold Builtin.List.listExtendWith
  have ho' : (s.heap.push (seqObj "list" #[] 0)).get? l = some o := Heap.get?_push_of_some _ ho
  refine wpAny_bind (wpAny_typeOf (T := "tuple") ⟨o, ho', hc⟩ ?_)
  have ht : (Value.type "tuple" == Value.type "tuple") = true := by rfl
  rw [if_pos (by rw [ht]; simp)]
  refine wpAny_bind (listItems_at ho' hd ?_)
  refine wpAny_bind (listItems_at (xs := #[]) (n := 0) (Heap.get?_push_size _ rfl) rfl ?_)
  rw [if_neg (by simp)]
  refine wpAny_bind (listUpdate_at (xs := #[]) (n := 0) (Heap.get?_push_size _ rfl) rfl ?_ (Nat.zero_le _) (by show (#[] ++ vs.toArray).size ≤ sizeLine + 1; simp only [Array.size_append, List.size_toArray, List.length_nil]; omega))
  refine wpAny_pure ?_
  show wpAny (model prog w) A (do
      let o ← load s.heap.objs.size
      match o.data with
      | .seq xs _ => pure xs.toList
      | _ => unsupported "internal:collect") Q E { s with heap := (s.heap.push (seqObj "list" #[] 0)).update s.heap.objs.size (Obj.mapSeq (· ++ vs.toArray)) }
  refine wpAny_bind (wpAny_load (get?_update_seq (Heap.get?_push_size _ rfl) _) ?_)
  show wpAny _ _ (pure ((#[] : Array Value) ++ vs.toArray).toList) Q E _
  rw [show ((#[] : Array Value) ++ vs.toArray).toList = vs by simp]
  exact wpAny_pure h
theorem ms_sorts_few {vs : List Value} {ds : List PyData} (e : EachIs (fun v d => ∃ as, Reads s.heap v d as) vs ds) (hal : AllAlike ds) (h1 : vs.length ≤ 1) (hn : ∀ d, d ∈ ds → d ≠ .none) (hu : ∀ d, d ∈ ds → A.units + d.depth < cLine) : SortsAt prog w A s (dataKind s.heap ds) vs := by
  refine ⟨fun v hv => ?_, general', fun E x y a b Q ha hb hq => ?_, fun h2 => absurd h2 (by omega)⟩
  · obtain ⟨d, hd, as, r⟩ := e.left v hv
    exact ⟨_, dataKind_some hal hd r⟩
  · obtain ⟨d, as, hd, ra, rfl⟩ := dataKind_inv ha
    obtain ⟨d', as', hd', rb, rfl⟩ := dataKind_inv hb
    show wpAny _ _ (oneLt' false x y) _ _ _
    exact oneLt_alike (fun q => by cases q) ra rb (hal d hd d' hd') (hn d hd) (Nat.lt_of_le_of_lt (Nat.add_le_add_left (Nat.min_le_left _ _) _) (hu d hd)) hq
theorem ms_collect_kdl {T : String} {r d : Addr} {n : Nat} {P : Nat → Value → Prop} {OK : Heap → Prop} {R : List Value → Shared → Prop} (K : KdlSrc prog w T r d n P OK) (hh : A.handled = none) (hok : OK s.heap) (hn : n ≤ sizeLine)
    (h : ∀ (h' : Heap) (tk : Nat) (acc : Array Value), (∀ b o, s.heap.get? b = some o → h'.get? b = some o) → s.heap.objs.size ≤ h'.objs.size → ItemsOf P acc n → R acc.toList { s with heap := h', toks := tk }) :
    wpAny (model prog w) A (collect (.ref r)) R E s := by
  have hlt := K.there _ hok
  unfold collect
  refine wpAny_bind (wpAny_runValue (codeAny_builtin entry_proto_collect' ?_))
  rw [Around.under_plainId PySem.F.plain_proto_collect _]
  show wpAny _ A.in1 (newList [] >>= fun l => again (.builtin "list.__iadd__" ⟨[l, .ref r], []⟩)) _ _ s
  refine wpAny_bind (wpAny_newObj_type ?_)
  refine wpAny_pure ⟨plainId_quiet PySem.F.plain_list_iadd _, codeAny_builtin entry_list_iadd' ?_⟩
  rw [Around.under_plainId PySem.F.plain_list_iadd _]
  have hS₁ : (s.heap.push { cls := .type "list", data := .seq ([] : List Value).toArray }).get? s.heap.objs.size = some { cls := .type "list", data := .seq #[] } := Heap.get?_push_size _ rfl
  show wpAny _ A.in1 (Builtin.List.listExtendWith (.ref s.heap.objs.size) (.ref r) (.ref s.heap.objs.size)) _ _ _
  have key := kdl_extend (prog := prog) (w := w) (A := A) (s := { s with heap := s.heap.push { cls := .type "list", data := .seq ([] : List Value).toArray } })
    (R := fun (q : Result) (s' : Shared) => ∃ (h' : Heap) (tk : Nat) (acc' : Array Value) (c' : Nat), q = .ok (.ret (.ref s.heap.objs.size)) ∧ s' = { s with heap := h', toks := tk } ∧
      (∀ b o, s.heap.get? b = some o → h'.get? b = some o) ∧ h'.get? s.heap.objs.size = some { cls := .type "list", dict := none, data := .seq acc' c', slots := #[] } ∧ ItemsOf P acc' n)
    K hh (K.keep _ _ hok fun b _ o e => Heap.get?_push_of_some _ e) s.heap.objs.size (Nat.ne_of_gt hlt.1) (Nat.ne_of_gt hlt.2) (.ref s.heap.objs.size) 0 hS₁
    (fun h' tk acc' c' hk hS' hacc => ⟨h', tk, acc', c', rfl, rfl, fun b o e => hk b o (Nat.ne_of_lt (Heap.lt_size e)) (Heap.get?_push_of_some _ e), hS', hacc⟩) hn
  refine wpAny_mono key (fun fin s' x => ?_) fun e s' x => ?_
  · cases fin with
    | done f =>
      obtain ⟨h', tk, acc', c', e, rfl, hk, hS', hacc⟩ := x
      cases e
      show wpAny _ A (load s.heap.objs.size >>= _) _ _ _
      refine wpAny_bind (wpAny_load hS' ?_)
      refine wpAny_pure ?_
      exact h h' tk acc' hk (Nat.le_of_lt (Heap.lt_size hS')) hacc
    | again c₁ =>
      refine ⟨x.1, codeAny_mono x.2 fun q s₂ y => ?_⟩
      obtain ⟨h', tk, acc', c', rfl, rfl, hk, hS', hacc⟩ := y
      show wpAny _ A (load s.heap.objs.size >>= _) _ _ _
      refine wpAny_bind (wpAny_load hS' ?_)
      refine wpAny_pure ?_
      exact h h' tk acc' hk (Nat.le_of_lt (Heap.lt_size hS')) hacc
  · obtain ⟨_, _, _, _, e', _⟩ := x
    cases e'
/-- sorted of what is collected -/
theorem ms_sorted {r : Addr} {vs : List Value} {β : Type} {bs : List β} {enc : β → PyData} {R : Value → β → Prop} {Q : Value → Shared → Prop}
    (hcol : ∀ (Q' : List Value → Shared → Prop) (E' : Value → Shared → Prop), (∀ h' tk, (∀ b o, s.heap.get? b = some o → h'.get? b = some o) → s.heap.objs.size ≤ h'.objs.size → Q' vs { s with heap := h', toks := tk }) → wpAny (model prog w) A.in1 (collect (.ref r)) Q' E' s)
    (e : EachIs R vs bs) (er : EachIs (fun v b => ∃ as, Reads s.heap v (enc b) as) vs bs) (hal : AllAlike (bs.map enc)) (hk : Sortable (bs.map enc) ∨ (bs.length ≤ 1 ∧ ∀ d, d ∈ bs.map enc → d ≠ .none)) (hL : bs.length ≤ sizeLine)
    (hu : ∀ b, b ∈ bs → A.units + 2 + (enc b).depth < cLine)
    (h : ∀ h' tk a out c, (∀ b o, s.heap.get? b = some o → h'.get? b = some o) → s.heap.objs.size ≤ a → h'.get? a = some (seqObj "list" (List.toArray out) c) → EachIs R out (bs.mergeSort (dataLe false enc)) → Q (.ref a) { s with heap := h', toks := tk }) :
    wpAny (model prog w) A (call (.builtin "sorted") [.ref r]) Q E s := by
  refine call_function_entry kind_sorted plain_sorted entry_sorted (args_sorted1 _) ?_
  unfold Builtin.«sorted»
  refine wpAny_bind (m := checkCount "sorted" 1 1 _) (wpAny_pure ?_)
  refine wpAny_bind (hcol _ _ fun h1 tk k1 hsz => ?_)
  have hvl : vs.length ≤ sizeLine := by rw [e.length]; exact hL
  refine wpAny_bind (wpAny_newList ?_ hvl)
  have k2 : ∀ b o, h1.get? b = some o → (h1.push (seqObj "list" vs.toArray 0)).get? b = some o := fun b o q => Heap.get?_push_of_some _ q
  have ho : (h1.push (seqObj "list" vs.toArray 0)).get? h1.objs.size = some (seqObj "list" vs.toArray 0) := Heap.get?_push_size _ rfl
  have k3 : ∀ b o, s.heap.get? b = some o → (sortingHeap (h1.push (seqObj "list" vs.toArray 0)) h1.objs.size vs).get? b = some o := fun b o q => sortingHeap_old (Nat.ne_of_lt (Heap.lt_size (k1 _ _ q))) (k2 _ _ (k1 _ _ q))
  have er' : EachIs (fun v b => ∃ as, Reads (sortingHeap (h1.push (seqObj "list" vs.toArray 0)) h1.objs.size vs) v (enc b) as) vs bs := er.mono fun _ _ ⟨as, r⟩ => ⟨as, PyProof.Rows.Reads.keeps k3 r⟩
  have S : SortsAt prog w A.in1.in1 { s with heap := sortingHeap (h1.push (seqObj "list" vs.toArray 0)) h1.objs.size vs, toks := tk } (dataKind (sortingHeap (h1.push (seqObj "list" vs.toArray 0)) h1.objs.size vs) (bs.map enc)) vs := by
    have em : EachIs (fun v d => ∃ as, Reads (sortingHeap (h1.push (seqObj "list" vs.toArray 0)) h1.objs.size vs) v d as) vs (bs.map enc) := each_map (R := fun v d => ∃ as, Reads (sortingHeap (h1.push (seqObj "list" vs.toArray 0)) h1.objs.size vs) v d as) enc er'
    have hu' : ∀ d, d ∈ bs.map enc → A.in1.in1.units + d.depth < cLine := bound_map (A := A.in1.in1) hu
    rcases hk with hk | ⟨hf, hn⟩
    · exact SortsAt.data (s := { s with heap := sortingHeap (h1.push (seqObj "list" vs.toArray 0)) h1.objs.size vs, toks := tk }) em hal hk hu'
    · exact ms_sorts_few (s := { s with heap := sortingHeap (h1.push (seqObj "list" vs.toArray 0)) h1.objs.size vs, toks := tk }) em hal (by rw [e.length]; exact hf) hn hu'
  show wpAny _ _ _ _ _ { s with heap := h1.push (seqObj "list" vs.toArray 0), toks := tk }
  refine wpAny_bind (wpAny_holding (wpAny_call_entry slot_list_sort ⟨_, ho, rfl⟩ entry_list_sort (list_sort_vals (s := { s with heap := h1.push (seqObj "list" vs.toArray 0), toks := tk }) ho S hvl ⟨.none, rfl, ?_⟩) (args_list_sort _)))
  have so := sortVals_data (R := R) false e er' hal
  obtain ⟨c, hc⟩ := sortedHeap_at (vs := vs) (out := (sortVals (dataKind (sortingHeap (h1.push (seqObj "list" vs.toArray 0)) h1.objs.size vs) (bs.map enc)) false vs vs).toArray) ho
  exact wpAny_pure ⟨_, rfl, h _ tk _ _ c (fun b o q => (sortedHeap_old (Nat.ne_of_lt (Heap.lt_size (k1 _ _ q))) (Heap.lt_size (k2 _ _ (k1 _ _ q)))).trans (k2 _ _ (k1 _ _ q))) hsz hc so⟩
end
end PySem.W
namespace MS
open PySem L2 PyProof.Rows

theorem zip_snd {α β : Type} : ∀ {l : List α} {m : List β}, l.length = m.length → (l.zip m).map Prod.snd = m
  | [], [], _ => rfl
  | _ :: _, [], h => by cases h
  | [], _ :: _, h => by cases h
  | a :: l, b :: m, h => by
    rw [List.zip_cons_cons, List.map_cons, zip_snd (by simpa using h)]
theorem each_of {B : Hp} : ∀ {vs : List V} {ds : List PyData} {its : List Value}, DtAll B vs ds → Vals vs its → PySem.W.EachIs (fun u (b : V × PyData) => RelV b.1 u ∧ Dt B b.1 b.2) its (vs.zip ds)
  | _, [], _, t, r => by cases t; cases r; exact .nil
  | _, d :: ds, _, t, r => by
    cases t with
    | cons t1 t2 =>
      cases r with
      | cons r1 r2 => exact .cons ⟨r1, t1⟩ (each_of t2 r2)
theorem each_back {B : Hp} : ∀ {zs : List (V × PyData)} {its : List Value}, PySem.W.EachIs (fun u (b : V × PyData) => RelV b.1 u ∧ Dt B b.1 b.2) its zs → Vals (zs.map Prod.fst) its ∧ DtAll B (zs.map Prod.fst) (zs.map Prod.snd)
  | _, _, .nil => ⟨.nil, .nil⟩
  | _, _, .cons h t => ⟨.cons h.1 (each_back t).1, .cons h.2 (each_back t).2⟩
section
variable {X : Cx} {C : Cc} {e a b c : Expr} {es : List Expr} {f g : DE} {fb : DB} {l : DL} {t : DT} {pos p : Pos}
theorem sort_core {n : Nat} (hr : Room n X.A) {pins : List (Addr × Obj)} {s : Shared} {σ : L2.St} {B H : Hp} {Q : VK} {r : Addr} {vs : List V} {ds zs : List PyData} {its : List Value} (I : Inv X pins σ H s) (sm : Same B H) (td : DtAll B vs ds) (rv : Vals vs its)
    (hcol : ∀ (Q' : List Value → Shared → Prop) (E' : Value → Shared → Prop), (∀ h' tk, (∀ b o, s.heap.get? b = some o → h'.get? b = some o) → s.heap.objs.size ≤ h'.objs.size → Q' its { s with heap := h', toks := tk }) → wpAny (model X.prog X.w) X.A.in1 (collect (.ref r)) Q' E' s)
    (hs : sortD ds = .ok zs) (q : ∀ p ys, H p = none → DtAll B ys zs → Q (.ref p) (upd H p (.lst ys))) : wpAny (model X.prog X.w) X.A (call (.builtin "sorted") [.ref r]) (EP X pins σ Q) X.xe s := by
  obtain ⟨⟨hl, ho⟩, hz⟩ := if_ok (show (if ds.length ≤ lim ∧ sortOk ds = true then Rs.ok (ds.mergeSort (PySem.W.dataLe false id)) else .no) = .ok zs from hs)
  unfold sortOk at ho
  rw [Bool.and_eq_true, Bool.and_eq_true] at ho
  obtain ⟨⟨o1, o2⟩, o3⟩ := ho
  have em := zip_snd td.len
  have hal : PySem.W.AllAlike ((vs.zip ds).map Prod.snd) := by
    rw [em]
    intro d hd d' hd'
    exact List.all_eq_true.mp (List.all_eq_true.mp o1 d hd) d' hd'
  have hlen : (vs.zip ds).length = ds.length := by rw [List.length_zip, td.len, Nat.min_self]
  have hk : PySem.W.Sortable ((vs.zip ds).map Prod.snd) ∨ ((vs.zip ds).length ≤ 1 ∧ ∀ d, d ∈ (vs.zip ds).map Prod.snd → d ≠ .none) := by
    rw [em, hlen]
    rw [Bool.or_eq_true, Bool.or_eq_true, Bool.and_eq_true] at o2
    rcases o2 with (⟨w1, w2⟩ | w) | w
    · refine .inr ⟨of_decide_eq_true w1, fun d hd => ?_⟩
      have := List.all_eq_true.mp w2 d hd
      intro q; subst q; cases this
    · refine .inl (.inl fun d hd => ?_)
      have := List.all_eq_true.mp w d hd
      unfold isTupC at this
      split at this
      · exact ⟨_, _, rfl⟩
      · cases this
    · refine .inl (.inr fun d hd => ?_)
      have := List.all_eq_true.mp w d hd
      unfold isOth at this
      split at this
      · cases this
      · cases this
      · rename_i h1 h2
        exact ⟨h1, fun xs q => h2 xs q⟩
  refine PySem.W.ms_sorted (enc := Prod.snd) (bs := vs.zip ds) (R := fun u b => RelV b.1 u ∧ Dt B b.1 b.2) hcol (each_of td rv) ((each_of td rv).mono fun u b z => (z.2.on sm).dp.reads I _ _ _ z.1) hal hk (by rw [hlen]; exact lim_le hl) (fun b hb => ?_) fun h' tk a out c k1 ha hg so => ?_
  · have hm : b.2 ∈ ds := by rw [← em]; exact List.mem_map.mpr ⟨b, hb, rfl⟩
    have := of_decide_eq_true (List.all_eq_true.mp o3 _ hm)
    have := hr.un
    omega
  · obtain ⟨r1, t1⟩ := each_back so
    have e2 : ((vs.zip ds).mergeSort (PySem.W.dataLe false Prod.snd)).map Prod.snd = zs := by
      rw [← hz]
      exact (List.map_mergeSort (r := PySem.W.dataLe false Prod.snd) (s := PySem.W.dataLe false id) (f := Prod.snd) (l := vs.zip ds) (fun _ _ _ _ => rfl)).trans (by rw [em])
    rw [e2] at t1
    have hn := I.hok.fresh ha
    refine ⟨.ref a, _, I.laid (t' := tk) (o := .lst (((vs.zip ds).mergeSort (PySem.W.dataLe false Prod.snd)).map Prod.fst)) k1 ha ?_, rfl, q a _ hn t1⟩
    refine ⟨?_, out, c, r1, hg⟩
    rw [t1.len, ← e2, List.length_map, List.length_mergeSort, hlen]
    exact lim_le hl
theorem size_upd (h : Heap) (vs : List Value) : h.objs.size ≤ ((h.push (seqObj "list" #[] 0)).update h.objs.size (Obj.mapSeq (· ++ vs.toArray))).objs.size := by
  rw [Heap.size_update, size_push']
  exact Nat.le_succ _
theorem keep_upd {h : Heap} {vs : List Value} (b : Addr) (o : Obj) (e : h.get? b = some o) : ((h.push (seqObj "list" #[] 0)).update h.objs.size (Obj.mapSeq (· ++ vs.toArray))).get? b = some o := by
  rw [Heap.get?_update_ne _ _ _ _ (Nat.ne_of_lt (Heap.lt_size e))]
  exact Heap.get?_push_of_some _ e
def rSort (K : PySem.W.Frag) (C : Cc) : List V → Hp → VK → Prop := fun xs H Q => ∃ v B s zs, xs = [v] ∧ Same B H ∧ SlV K C B H v s ∧ sortS s = .ok zs ∧ ∀ p ys B', Ext B H B' H → H p = none → DtAll B' ys zs → Q (.ref p) (upd H p (.lst ys))
theorem adopt {B H : Hp} (sm : Same B H) : ∃ B' : Hp, Ext B H B' H ∧ ∀ (a : Addr) (xs : List V), H a = some (HO.tup xs) → B' a = some (HO.tup xs) := by
  refine ⟨fun a => match H a with
    | some (.tup xs) => some (.tup xs)
    | _ => B a, ⟨fun a o e => ?_, Same.refl _, fun a o e => ?_, fun a o e => ?_⟩, fun a xs e => ?_⟩
  · have h := sm _ _ e
    show (match H a with | some (.tup xs) => some (.tup xs) | _ => B a) = some o
    rw [h]
    cases o <;> first | rfl | exact e
  · have e' : (match H a with | some (.tup xs) => some (.tup xs) | _ => B a) = some o := e
    split at e'
    · rename_i xs q; rw [q]; exact e'
    · exact sm _ _ e'
  · have e' : (match H a with | some (.tup xs) => some (.tup xs) | _ => B a) = some o := e
    split at e'
    · rename_i xs q
      have e2 : HO.tup xs = o := Option.some.inj e'
      exact .inr (.inr ⟨by rw [q, e2], xs, e2.symm⟩)
    · exact .inl e'
  · show (match H a with | some (HO.tup xs) => some (HO.tup xs) | _ => B a) = some (HO.tup xs)
    rw [e]
theorem keys_all {B H : Hp} (ad : ∀ (a : Addr) (xs : List V), H a = some (HO.tup xs) → B a = some (HO.tup xs)) : ∀ {ks : List (List Key × V)} {bs : List Addr} {kvs : List (List Int × PyData)}, IsKeys H ks bs → KvT H ks kvs → DtAll B (bs.map V.ref) (kvs.map fun p => PyData.tuple (p.1.map .int))
  | _, _, _, .nil, .nil => .nil
  | _, _, _, .cons r t, .cons r' t' => by
    refine .cons ?_ (keys_all ad t t')
    have h := r
    rw [r'.1, kV_inl] at h
    exact Dt.tup (ad _ _ h) (DtAll.of_ints _)
theorem cr_srt {n : Nat} (hr : Room n X.A) : CallR X (.builtin "sorted") (rSort X.K C) := by
  intro pins s σ H xs us Q I r h
  obtain ⟨v, B, sl, zs, rfl, sm, hv, hs, q⟩ := h
  obtain ⟨u, rfl, rx⟩ := vals1 r
  have onL : ∀ {a : Addr} {vs : List V} {ds : List PyData}, v = .ref a → H a = some (.lst vs) → DtAll B vs ds → sortD ds = .ok zs → wpAny (model X.prog X.w) X.A (call (.builtin "sorted") [u]) (EP X pins σ Q) X.xe s := by
    intro a vs ds ea ha td hd
    subst ea
    obtain rfl : u = Value.ref a := rx
    obtain ⟨its, rv, pl, hz⟩ := I.list (SqL.of ha)
    exact sort_core hr I sm td rv (fun Q' E' k => collect_list pl.isList (k _ s.toks keep_upd (size_upd _ _)) (by rw [← rv.length]; exact hz)) hd fun p ys hp ty => q p ys B (Ext.refl sm) hp ty
  cases sl with
  | fz d =>
    have hv' : Dt B v d := hv
    cases hv' with
    | @lst a vs ds h1 h2 => exact onL rfl (sm _ _ h1) h2 hs
    | @tup a vs ds h1 h2 =>
      obtain rfl : u = Value.ref a := rx
      obtain ⟨its, rv, pl, hz⟩ := I.tuple (SqT.of (sm _ _ h1))
      exact sort_core hr I sm h2 rv (fun Q' E' k => PySem.W.ms_collect_tup pl (k _ s.toks keep_upd (size_upd _ _)) (by rw [← rv.length]; exact hz)) hs fun p ys hp ty => q p ys B (Ext.refl sm) hp ty
    | _ => cases hs
  | ow ds =>
    obtain ⟨a, vs, rfl, z1, z2, z3, z4⟩ := hv
    exact onL rfl z1 z4 hs
  | dc kvs =>
    obtain ⟨a, ks, rfl, z1, z2, z3, z4⟩ := hv
    obtain rfl : u = Value.ref a := rx
    obtain ⟨B', xB, ad⟩ := adopt sm
    obtain ⟨zl, hsm, xs, pr, o, es, ep, ho, hx, hdt, he, hn⟩ := (show ObjOk X.prog X.w H s.heap a (.dT ks) from I.hok a _ z1)
    have l1 : es.size = xs.length := size_of_entries he
    have l2 : ks.length = xs.length := Paired.length pr
    have td : DtAll B' ((xs.map fun x => x.2.1).map V.ref) (kvs.map fun p => PyData.tuple (p.1.map .int)) := keys_all ad (isKeys_of pr) (z4.on sm)
    have rv : Vals ((xs.map fun x => x.2.1).map V.ref) ((xs.map fun x => x.2.1).map Value.ref) := vals_refs _
    refine sort_core hr I xB.s td rv (fun Q' E' k => PySem.W.ms_collect_kdl (kdl_raw hsm hx hdt) hr.hd ho (by omega) fun h' tk acc kp hs2 it => ?_) hs fun p ys hp ty => q p ys B' xB hp ty
    have ea : acc.toList = xs.map fun x => Value.ref x.2.1 := by
      have hl : acc.toList.length = xs.length := by rw [Array.length_toList, it.1]; exact l1
      apply List.ext_getElem?
      intro j
      rw [List.getElem?_map]
      cases hj : acc.toList[j]? with
      | none =>
        have h1 := List.getElem?_eq_none_iff.mp hj
        rw [List.getElem?_eq_none (by omega)]
        all_goals rfl
      | some v =>
        obtain ⟨en, hen, hv⟩ := it.2 j v (by rw [← Array.getElem?_toList]; exact hj)
        have qe := entry_at he j
        rw [hen] at qe
        cases hb : xs[j]? with
        | none =>
          rw [hb] at qe
          exact nomatch (show some en = none from qe)
        | some b =>
          rw [hb] at qe
          have e2 : en = entryOfKey (tupleKind (mixKind X.prog X.w)) b := Option.some.inj qe
          rw [hv, e2]
          all_goals rfl
    have eb : acc.toList = (xs.map fun x => x.2.1).map Value.ref := by rw [ea, List.map_map]; all_goals rfl
    rw [eb]
    exact k h' tk kp hs2
  | nil => exact hv.elim
  | ex _ => cases hs
  | sc _ => cases hs
theorem sortS_ne (s : Sl) (k : MS.XK) : sortS s ≠ .er k := by
  intro h
  unfold sortS at h
  split at h <;> first | exact if_ne h | cases h
theorem xl_sorted (T : Txs X.mg) {n : Nat} (hr : Room n X.A) (ha : XB X C a fb) (hg : Gl X "sorted" := by rfl) (he : starEach (a :: []) X.env = (false, eval a X.env) :: starEach [] X.env := by rfl) (hpl : (backTo pos (starEach [] X.env)).any (·.1) = false := by rfl) : XL X C (.Call (.Name "sorted" p) [a] [] pos) (lSorted fb) :=
  (pe_callB (cr_srt (C := C) hr) hg T.sorted (by decide +kernel) (pa_cons ha pa_nil he) (he := he) (hpl := hpl)).imp fun σ H Q ⟨ρ, B, S, h⟩ => ⟨ρ, B, S, bindP h fun s _ h v1 B1 H1 x1 t1 => by
    cases e : sortS s with
    | er k => exact absurd e (sortS_ne s k)
    | no => rw [e] at h; exact h.elim
    | ok zs =>
      rw [e] at h
      refine ⟨v1, B1, s, zs, rfl, x1.s, t1, e, fun p ys B' xB hp ty => ?_⟩
      exact h p ys B' _ (x1.trans (xB.trans (Ext.raw xB.s hp))) (x1.h.free hp) (xB.s.free hp) upd_same ty⟩

/-! ### errors -/
structure ExT (K : PySem.W.Frag) (mg : Str → Option Value) (x : Str) (Ca : Addr) : Prop where
  g : mg x = some (.ref Ca)
  k : PySem.W.keepIn K (.ref Ca) = true
  x : PySem.W.excIn K Ca [.type "ValueError", .type "Exception", .type "BaseException", .type "object"] "ValueError.__new__" = true
  b : PySem.W.subIn K (.ref Ca) (.type "BaseException") = some true
  t : PySem.W.typeIn K (.ref Ca) = some (.type "type")
theorem xs_raise {x m : Str} {k : MS.XK} {j : Nat} {p2 pos2 : Pos} (T : ExT X.K X.mg x (C.ec k)) (tk : Takes X C.W := by assumption) (hc : X.calm = true := by rfl) (hg : Gl X x := by rfl) (hdb : (x == ("__debug__" : Str)) = false := by decide) :
    XS X C (.Raise (some (.Call (.Name x p) [.Constant (.str m) j p2] [] pos)) none pos2) (sRaise k) :=
  (ps_raise hc tk (pmk_own PySem.F.excBase_ValueError T.x T.g T.k (raises_own T.b T.t) hg hdb)).imp fun D σ H ⟨ρ, B, S, h⟩ => h σ B H (Same.refl _) S
end
end MS

/-! MsLayH: sets, isinstance, try, the by-hand defs. -/
namespace MS
open PySem L2 PyProof.Rows
section
variable {X : Cx} {C : Cc} {e a b c : Expr} {es : List Expr} {f g : DE} {fb : DB} {l : DL} {t : DT} {pos p p2 q : Pos}
/-! ### sorted(set(..)), len(set(..)) -/
theorem cr_setTup (hc : X.calm = true) : CallR X (.type "set") (fun xs H Q => ∃ (a : Addr) (ns : List Int), xs = [V.ref a] ∧ SqT X.K H a (ns.map V.int) ∧ ns.length < 64 ∧ ∀ p c, H p = none → c ≤ ns.length → Q (.ref p) (upd H p (SetO X.w p (fun j => decide (j ∈ ns)) c))) := by
  intro pins s σ H xs us Q I r h
  obtain ⟨a, ns, rfl, ha, hn, q⟩ := h
  rw [Vals.ref1 r]
  obtain ⟨its, rv, pl, hz⟩ := I.tuple ha
  have hn' : H s.heap.objs.size = none := I.hok.fresh (Nat.le_refl _)
  refine call_set_tupI (P := X.prog) (w := X.w) ns (I.ok.hd hc) pl (by simpa using rv.ints) (by unfold scanBound; omega) fun h' tk c R hc2 k => ?_
  exact ⟨.ref s.heap.objs.size, _, I.laid (t' := tk) k (Nat.le_refl _) (setO_new R), rfl, q _ c hn' hc2⟩
theorem xl_ssi (T : Txs X.mg) (ha : XE X C a f) (hc : X.calm = true := by rfl) (hg : Gl X "sorted" := by rfl) (hg2 : Gl X "set" := by rfl) (na : starEach (a :: []) X.env = (false, eval a X.env) :: starEach [] X.env := by rfl)
    (nb : starEach (.Call (.Name "set" p2) [a] [] q :: []) X.env = (false, eval (.Call (.Name "set" p2) [a] [] q) X.env) :: starEach [] X.env := by rfl) (hpl : (backTo pos (starEach [] X.env)).any (·.1) = false := by rfl) (hpl2 : (backTo q (starEach [] X.env)).any (·.1) = false := by rfl) :
    XL X C (.Call (.Name "sorted" p) [.Call (.Name "set" p2) [a] [] q] [] pos) (lSSI f) :=
  (pe_callB (cr_sortedSet hc) hg T.sorted (by decide +kernel) (pa_cons (pe_callTy (cr_setTup hc) hg2 T.set PyProof.Rows.boot_set (pa_cons ha pa_nil na) (he := na) (hpl := hpl2)) pa_nil nb) (he := nb) (hpl := hpl)).imp fun σ H Q ⟨ρ, B, S, h⟩ => ⟨ρ, B, S, bindP h fun d _ h v1 B1 H1 x1 t1 => by
    cases t1 with
    | @tup a xs ds h1 h2 =>
      cases e : intsOf ds with
      | none => simp only [ssetI, e, ofO, Rs.bind_no] at h; exact h.elim
      | some ns =>
        simp only [ssetI, e, ofO, Rs.bind_ok] at h
        have h3 : pL C B H σ Q (if ns.length < 60 then .ok ((upI ns).map .int) else .no) := h
        by_cases hz : ns.length < 60
        · rw [if_pos hz] at h3
          have := h2.ints e
          subst this
          refine ⟨a, ns, rfl, SqT.of (x1.s _ _ h1), by omega, fun p c hp hcn => ⟨p, _, c, rfl, upd_same, by omega, fun ms r up hm hl hr => ?_⟩⟩
          have em : ms = upI ns := pw_unique (fun a b h h' => by omega) up (upI_up ns) fun x => by
            rw [hm, upI_mem]
            exact decide_eq_true_iff
          rw [em]
          have x2 := Ext.raw (o := SetO X.w p (fun j => decide (j ∈ ns)) c) x1.s hp
          exact h3 r _ B1 _ (x1.trans (x2.trans (Ext.raw x2.s hr))) (x1.h.free (x2.h.free hr)) (x2.s.free hr) upd_same (DtAll.of_ints _)
        · rw [if_neg hz] at h3
          exact h3.elim
    | _ => exact h.elim⟩
theorem pairs_all {B : Hp} : ∀ {vs : List V} {ds : List PyData} {ps : List (Int × Int)}, DtAll B vs ds → pairsOf ds = some ps → ∃ as : List Addr, vs = as.map V.ref ∧ as.length = ps.length ∧ ∀ i (h : i < as.length) (h' : i < ps.length), B as[i] = some (.tup [.int ps[i].1, .int ps[i].2])
  | _, [], ps, t, e => by
    cases t
    have e' : ([] : List (Int × Int)) = ps := Option.some.inj e
    subst e'
    exact ⟨[], rfl, rfl, fun i h => by simp at h⟩
  | _, d :: ds, ps, t, e => by
    cases t with
    | cons t1 t2 =>
      unfold pairsOf at e
      cases e1 : pairOf d with
      | none => rw [e1] at e; cases e
      | some p =>
        cases e2 : pairsOf ds with
        | none => rw [e1, e2] at e; cases e
        | some qs =>
          rw [e1, e2] at e
          have e' : p :: qs = ps := Option.some.inj e
          subst e'
          obtain ⟨as, rfl, hl, ha⟩ := pairs_all t2 e2
          unfold pairOf at e1
          split at e1
          · rename_i x y
            have e3 : (x, y) = p := Option.some.inj e1
            subst e3
            cases t1 with
            | @tup a xs _ z1 z2 =>
              cases z2 with
              | cons w1 w2 =>
                cases w2 with
                | cons w3 w4 =>
                  cases w1
                  cases w3
                  cases w4
                  refine ⟨a :: as, rfl, by rw [List.length_cons, List.length_cons, hl], fun i h h' => ?_⟩
                  cases i with
                  | zero => exact z1
                  | succ i => exact ha i (by simpa using h) (by simpa using h')
          · cases e1
def decP (l : List Int) : Int × Int := (l.getD 0 0, l.getD 1 0)
theorem prs_all {B : Hp} : ∀ (L : List (Addr × List Int)), (∀ q ∈ L, B q.1 = some (.tup [.int (decP q.2).1, .int (decP q.2).2])) → DtAll B (L.map fun q => V.ref q.1) ((L.map fun q => decP q.2).map prD)
  | [], _ => .nil
  | q :: L, h => .cons (Dt.tup (h q List.mem_cons_self) (.cons (.int _) (.cons (.int _) .nil))) (prs_all L fun q hq => h q (List.mem_cons_of_mem _ hq))
theorem xl_ssp (T : Txs X.mg) {n : Nat} (hr : Room n X.A) (ha : XE X C a f) (hc : X.calm = true := by rfl) (hg : Gl X "sorted" := by rfl) (hg2 : Gl X "set" := by rfl) (na : starEach (a :: []) X.env = (false, eval a X.env) :: starEach [] X.env := by rfl)
    (nb : starEach (.Call (.Name "set" p2) [a] [] q :: []) X.env = (false, eval (.Call (.Name "set" p2) [a] [] q) X.env) :: starEach [] X.env := by rfl) (hpl : (backTo pos (starEach [] X.env)).any (·.1) = false := by rfl) (hpl2 : (backTo q (starEach [] X.env)).any (·.1) = false := by rfl) :
    XL X C (.Call (.Name "sorted" p) [.Call (.Name "set" p2) [a] [] q] [] pos) (lSSP f) :=
  (pe_callB (cr_sortedT hc) hg T.sorted (by decide +kernel) (pa_cons (pe_callTy (cr_setOfT hc hr.units) hg2 T.set PyProof.Rows.boot_set (pa_cons ha pa_nil na) (he := na) (hpl := hpl2)) pa_nil nb) (he := nb) (hpl := hpl)).imp fun σ H Q ⟨ρ, B, S, h⟩ => ⟨ρ, B, S, bindP h fun d _ h v1 B1 H1 x1 t1 => by
    cases t1 with
    | @lst a xs ds h1 h2 =>
      cases e : pairsOf ds with
      | none => simp only [ssetP, e, ofO, Rs.bind_no] at h; exact h.elim
      | some ps =>
        simp only [ssetP, e, ofO, Rs.bind_ok] at h
        have h3 : pL C B H σ Q (if ps.length < 60 ∧ ps.all (fun p => decide (0 ≤ p.1 ∧ p.1 < 64 ∧ 0 ≤ p.2 ∧ p.2 < 64)) = true then .ok ((upP ps).map prD) else .no) := h
        by_cases hz : ps.length < 60 ∧ ps.all (fun p => decide (0 ≤ p.1 ∧ p.1 < 64 ∧ 0 ≤ p.2 ∧ p.2 < 64)) = true
        · rw [if_pos hz] at h3
          obtain ⟨z1, z2⟩ := hz
          obtain ⟨as, rfl, hl, hB⟩ := pairs_all h2 e
          let ks : List (Addr × List Int) := (as.zip ps).map fun z => (z.1, [z.2.1, z.2.2])
          have hks : ∀ k ∈ ks, decP k.2 ∈ ps ∧ k.2 = [(decP k.2).1, (decP k.2).2] ∧ B1 k.1 = some (.tup [.int (decP k.2).1, .int (decP k.2).2]) := by
            intro k hk
            obtain ⟨z, hz, rfl⟩ := List.mem_map.mp hk
            obtain ⟨i, hi, ez⟩ := List.getElem_of_mem hz
            rw [List.getElem_zip] at ez
            subst ez
            have h1 : i < as.length := by rw [List.length_zip] at hi; omega
            have h2 : i < ps.length := by omega
            exact ⟨List.getElem_mem h2, rfl, hB i h1 h2⟩
          have hps : ∀ p ∈ ps, ∃ k ∈ ks, k.2 = [p.1, p.2] := by
            intro p hp
            obtain ⟨i, hi, rfl⟩ := List.getElem_of_mem hp
            have h1 : i < as.length := by omega
            refine ⟨(as[i], [ps[i].1, ps[i].2]), List.mem_map.mpr ⟨(as[i], ps[i]), ?_, rfl⟩, rfl⟩
            have hzl : i < (as.zip ps).length := by rw [List.length_zip]; omega
            have : (as.zip ps)[i] = (as[i], ps[i]) := List.getElem_zip ..
            rw [← this]
            exact List.getElem_mem hzl
          have exs : as.map V.ref = ks.map fun p => V.ref p.1 := by
            show _ = ((as.zip ps).map fun z => (z.1, [z.2.1, z.2.2])).map fun p => V.ref p.1
            rw [List.map_map]
            have : ((fun p : Addr × List Int => V.ref p.1) ∘ fun z : Addr × (Int × Int) => (z.1, [z.2.1, z.2.2])) = V.ref ∘ Prod.fst := rfl
            rw [this, ← List.map_map, List.map_fst_zip (by omega)]
          have hsq : ∀ {H' : Hp}, Same B1 H' → ∀ k ∈ ks, SqT X.K H' k.1 (k.2.map V.int) := fun {H'} sm k hk => by
            obtain ⟨_, e2, e3⟩ := hks k hk
            rw [e2]
            exact SqT.of (sm _ _ e3)
          have hkl : ks.length < 64 := by
            show ((as.zip ps).map _).length < 64
            rw [List.length_map, List.length_zip]; omega
          refine ⟨a, ks, rfl, by rw [← exs]; exact SqL.of (x1.s _ _ h1), hsq x1.s, hkl, fun p L hp hL1 hL2 => ?_⟩
          have x2 := Ext.raw (o := SetTO X.prog X.w p L) x1.s hp
          refine ⟨p, L, 2, 64, rfl, upd_same, fun k hk => hsq x2.s k (hL1 k hk), by decide, fun k hk => ?_, fun L' r pm nd _ pw hr => ?_⟩
          · obtain ⟨e1, e2, _⟩ := hks k (hL1 k hk)
            have := of_decide_eq_true (List.all_eq_true.mp z2 _ e1)
            rw [e2]
            exact ⟨rfl, fun m hm => by
              rcases List.mem_cons.mp hm with q | q
              · subst q; omega
              · rcases List.mem_cons.mp q with q | q
                · subst q; omega
                · cases q⟩
          · have hL' : ∀ k ∈ L', k ∈ ks := fun k hk => hL1 k (pm.mem_iff.mp hk)
            have em : L'.map (fun q => decP q.2) = upP ps := by
              refine pw_unique ltP_asym ?_ (upP_up ps) fun x => ?_
              · rw [List.pairwise_map]
                have nd' : L'.Pairwise (fun q r => q.2 ≠ r.2) := by
                  have := List.nodup_iff_pairwise_ne.mp nd
                  rw [List.pairwise_map] at this
                  exact this
                refine List.Pairwise.imp_of_mem ?_ (nd'.and pw)
                intro q r hq hr' hh
                obtain ⟨a1, a2, _⟩ := hks q (hL' q hq)
                obtain ⟨b1, b2, _⟩ := hks r (hL' r hr')
                have c1 := of_decide_eq_true (List.all_eq_true.mp z2 _ a1)
                have c2 := of_decide_eq_true (List.all_eq_true.mp z2 _ b1)
                have hh1 := hh.1
                have hh2 := hh.2
                rw [a2, b2, code_pair, code_pair] at hh2
                have hne : ¬ ((decP q.2).1 = (decP r.2).1 ∧ (decP q.2).2 = (decP r.2).2) := fun w => hh1 (by rw [a2, b2, w.1, w.2])
                unfold ltP
                omega
              · rw [upP_mem, List.mem_map]
                constructor
                · rintro ⟨k, hk, rfl⟩
                  exact (hks k (hL' k hk)).1
                · intro hx
                  obtain ⟨k, hk, ek⟩ := hps x hx
                  obtain ⟨k2, hk2, e2⟩ := List.mem_map.mp (hL2 k hk)
                  refine ⟨k2, pm.mem_iff.mpr hk2, ?_⟩
                  rw [e2, ek]
                  rfl
            have td := prs_all (B := B1) L' fun k hk => (hks k (hL' k hk)).2.2
            rw [em] at td
            exact h3 r _ B1 _ (x1.trans (x2.trans (Ext.raw x2.s hr))) (x1.h.free (x2.h.free hr)) (x2.s.free hr) upd_same td
        · rw [if_neg hz] at h3
          exact h3.elim
    | _ => exact h.elim⟩
theorem firstMet_nd (val : Nat → Int) : ∀ i, (firstMet val i).Nodup
  | 0 => List.nodup_nil
  | i + 1 => by
    rw [firstMet_succ]
    unfold step_dedup
    split
    · exact firstMet_nd val i
    · rename_i h
      rw [List.nodup_append]
      refine ⟨firstMet_nd val i, by simp, fun a ha b hb => ?_⟩
      rw [List.mem_singleton] at hb
      intro e
      exact h (List.any_eq_true.mpr ⟨a, ha, by simp [e, hb]⟩)
theorem up_nd (ns : List Int) : (upI ns).Nodup := List.nodup_iff_pairwise_ne.mpr ((upI_up ns).imp fun h => by omega)
theorem firstMet_len (ns : List Int) : (firstMet (fun i => ns.getD i 0) ns.length).length = (upI ns).length := by
  refine ((List.perm_ext_iff_of_nodup (firstMet_nd _ _) (up_nd ns)).mpr fun k => ?_).length_eq
  rw [upI_mem]
  have e := firstMet_any (fun i => ns.getD i 0) ns.length k
  have e2 : (List.range ns.length).map (fun i => ns.getD i 0) = ns := by
    apply List.ext_getElem
    · simp
    · intro i h1 h2
      simp [List.getD_eq_getElem?_getD, List.getElem?_eq_getElem h2]
  rw [e2] at e
  constructor
  · intro h
    have h1 : (firstMet (fun i => ns.getD i 0) ns.length).any (· == k) = true := List.any_eq_true.mpr ⟨k, h, by simp⟩
    rw [e] at h1
    obtain ⟨x, hx, q⟩ := List.any_eq_true.mp h1
    have : x = k := by simpa using q
    subst this; exact hx
  · intro h
    have h1 : ns.any (· == k) = true := List.any_eq_true.mpr ⟨k, h, by simp⟩
    rw [← e] at h1
    obtain ⟨x, hx, q⟩ := List.any_eq_true.mp h1
    have : x = k := by simpa using q
    subst this; exact hx
def tLenSetM (K : PySem.W.Frag) (ta : TE) : TE := fun σ H Q => ta σ H fun x H1 => ∃ (l : Addr) (ns : List Int), x = V.ref l ∧ SqL K H1 l (ns.map V.int) ∧ ns.length < 4000 ∧ Q (.int ((upI ns).length : Nat)) H1
theorem pe_lenSetM {a : Expr} {ta : TE} (hc : X.calm = true) (hg : Gl X "len") (hm : X.mg "len" = none) (hg2 : Gl X "set") (hm2 : X.mg "set" = none) (ha : PE X a ta)
    (na : starEach [a] X.env = (false, eval a X.env) :: starEach [] X.env) (nb : starEach [.Call (.Name "set" p2) [a] [] q] X.env = (false, eval (.Call (.Name "set" p2) [a] [] q) X.env) :: starEach [] X.env) : PE X (.Call (.Name "len" p) [.Call (.Name "set" p2) [a] [] q] [] pos) (tLenSetM X.K ta) := by
  refine ⟨fun pins s σ H Q I h => ?_⟩
  refine Call_ (ld_blt I hg hm PySem.boot_len ?_)
  refine PyProof.Rows.callWith_builtin1 (PyProof.Rows.args_cons ?_ nb) nb rfl
  refine Call_ (ld_blt I hg2 hm2 PyProof.Rows.boot_set ?_)
  refine PyProof.Rows.callWith_type1 (PyProof.Rows.args_cons (thn (ha.run pins s σ H _ I h) fun v s1 ⟨x, H1, I1, r1, q1⟩ => PyProof.Rows.args_nil ?_) na) na rfl
  obtain ⟨l, ns, rfl, hq, h1, q1⟩ := q1
  cases r1
  obtain ⟨its, r, pl, hz⟩ := I1.list hq
  have hl : its.toArray.size = ns.length := by rw [List.size_toArray, ← r.length, List.length_map]
  refine call_set_list (I1.ok.hd hc) pl.isList (ns := ns) (by simpa using r.ints) (by unfold scanBound; omega) fun h' tk hS hk => ?_
  rw [hl, firstMet_len] at hS
  refine PyProof.Rows.args_nil ?_
  obtain ⟨o, es, ep, t, ho, hex, hd, _, _, _, hf, hn⟩ := hS
  have I2 : Inv X pins σ H1 { s1 with heap := h', toks := tk } := I1.kept fun b o e => hk b o (Heap.lt_size e) e
  have hle : (upI ns).length ≤ ns.length := by
    rw [← firstMet_len]
    exact firstMet_length_le _ _
  refine call_len_set ho hex hd hf (by rw [hn] <;> omega) ⟨.int ((upI ns).length : Nat), H1, I2.tok _, ⟨_, by rw [hn]⟩, q1⟩
theorem xe_lenset (T : Txs X.mg) (ha : XE X C a f) (hc : X.calm = true := by rfl) (hg : Gl X "len" := by rfl) (hg2 : Gl X "set" := by rfl) (na : starEach (a :: []) X.env = (false, eval a X.env) :: starEach [] X.env := by rfl)
    (nb : starEach (.Call (.Name "set" p2) [a] [] q :: []) X.env = (false, eval (.Call (.Name "set" p2) [a] [] q) X.env) :: starEach [] X.env := by rfl) :
    XE X C (.Call (.Name "len" p) [.Call (.Name "set" p2) [a] [] q] [] pos) (dLenSet f) :=
  (pe_lenSetM hc hg T.len hg2 T.set ha na nb).imp fun σ H Q ⟨ρ, B, S, h⟩ => ⟨ρ, B, S, bindP h fun d _ h v1 B1 H1 x1 t1 => by
    cases t1 with
    | @lst a xs ds h1 h2 =>
      cases e : intsOf ds with
      | none => simp only [lsetI, e, ofO, Rs.bind_no] at h; exact h.elim
      | some ns =>
        simp only [lsetI, e, ofO, Rs.bind_ok] at h
        have h3 : pE C B H σ Q (if ns.length < 4000 then .ok (.int (upI ns).length) else .no) := h
        by_cases hz : ns.length < 4000
        · rw [if_pos hz] at h3
          have := h2.ints e
          subst this
          exact ⟨a, ns, rfl, SqL.of (x1.s _ _ h1), hz, h3 _ B1 H1 x1 (.int _)⟩
        · rw [if_neg hz] at h3
          exact h3.elim
    | _ => exact h.elim⟩

/-! ### isinstance(x, bool) -/
theorem xe_isb (T : Txs X.mg) (ha : XB X C a fb) (hg : Gl X "isinstance" := by rfl) (hgb : Gl X "bool" := by rfl) (hmb : X.mg "bool" = none) (he : starEach (a :: [.Name "bool" p2]) X.env = (false, eval a X.env) :: starEach [.Name "bool" p2] X.env := by rfl)
    (hb : starEach (.Name "bool" p2 :: []) X.env = (false, eval (.Name "bool" p2) X.env) :: starEach [] X.env := by rfl) (hpl : (backTo pos (starEach [.Name "bool" p2] X.env)).any (·.1) = false := by rfl) :
    XE X C (.Call (.Name "isinstance" p) [a, .Name "bool" p2] [] pos) (dIsB fb) :=
  (pe_callB call_isi hg T.isinstance (by decide +kernel) (pa_cons ha (pa_cons (pe_bltn (v := .ty "bool") (u := .type "bool") hgb hmb (by decide +kernel) rfl) pa_nil hb) he) (he := he) (hpl := hpl)).imp fun σ H Q ⟨ρ, B, S, h⟩ => ⟨ρ, B, S, bindP h fun s _ h v1 B1 H1 x1 t1 => by
    have fin : ∀ {t : Value} {b : Bool}, TyX X.K H1 v1 t → PySem.W.kitOne X.K t (.type "bool") = some b → pE C B H σ Q (.ok (.bool b)) → rIsi X.K [v1, .ty "bool"] H1 Q := fun {t b} ty k hq => ⟨v1, .ty "bool", t, .type "bool", b, rfl, .ty _, ty, k, hq _ B1 H1 x1 (.bl _)⟩
    cases s with
    | fz d =>
      have t1' : Dt B1 v1 d := t1
      cases t1' with
      | bl b => exact fin (.base (.bl b)) (kit_ty (by decide +kernel)) h
      | str z => exact fin (.base (.str z)) (kit_ty (by decide +kernel)) h
      | lst h1 h2 => exact fin (.base (.lst (x1.s _ _ h1))) (kit_ty (by decide +kernel)) h
      | tup h1 h2 => exact fin (.base (.tup (x1.s _ _ h1))) (kit_ty (by decide +kernel)) h
      | non => exact h.elim
      | int _ => exact h.elim
    | nil => exact h.elim
    | ow _ => exact h.elim
    | dc _ => exact h.elim
    | ex _ => exact h.elim
    | sc _ => exact h.elim⟩
end
end MS

/-! MsLayI: try, a caught error that is kept, isinstance of it, list.count, list.index. -/
namespace MS
open PySem PySem.Spec L2 PyProof.Rows

/-! ### a caught error comes to the abstract heap -/
section
variable {X : Cx} {pins : List (Addr × Obj)} {σ : L2.St} {H : Hp} {s : Shared}
theorem Inv_keepX {a C : Addr} {oe : Obj} {vs : Array Value} (I : Inv X pins σ H s) (he : s.heap.get? a = some oe) (hc : oe.cls = .ref C) (hdn : oe.dict = none) (hd : oe.data = .fields vs) (na : H a = none) (nL : a ≠ X.env.locals)
    (n0 : ∀ o, X.s_0.heap.get? a = some o → a ∈ X.ex) (np : ∀ p ∈ X.pn ++ pins, p.1 ≠ a) : Inv X pins σ (upd H a (exO a C)) s := by
  have nu : ∀ {b : Addr} {o : HO}, H b = some o → upd H a (exO a C) b = some o := fun {b o} e => by
    rw [upd_ne (ne_of_none e na)]; exact e
  refine ⟨I.ok, I.os, I.bare, ⟨I.base.keep, I.base.slot, fun b o e h0 hx => ?_, I.base.there, fun b xs e => nu (I.base.tups b xs e), fun b o u e => nu (I.base.frzs b o u e), fun b ps e => ?_⟩, I.loc, I.cell, ?_, fun x c e => ?_, fun p hp => ?_, fun b o e => ?_, I.len⟩
  · have : b ≠ a := fun z => by subst z; exact hx (n0 o e)
    rw [upd_ne this]
    exact I.base.free b o e h0 hx
  · obtain ⟨more, q⟩ := I.base.tbls b ps e
    exact ⟨more, nu q⟩
  · rw [upd_ne (Ne.symm nL)]; exact I.free
  · have : c ≠ a := fun z => by
      subst z
      obtain ⟨v, o, ho, hv⟩ := I.cell x c e
      rw [he] at ho; cases ho
      rw [hd] at hv; cases hv
    rw [upd_ne this]; exact I.freeC x c e
  · obtain ⟨e, n, ne, nf, d⟩ := I.pin p hp
    exact ⟨e, by rw [upd_ne (np p hp)]; exact n, ne, nf, d⟩
  · by_cases q : b = a
    · subst q
      rw [upd_same] at e
      have e' : exO b C = o := Option.some.inj e
      subst e'
      exact ⟨⟨oe, vs, he, hc, hdn, hd⟩, ⟨oe, he⟩, fun h1 h2 ⟨o1, v1, z1, z2⟩ k => ⟨o1, v1, k _ z1, z2⟩⟩
    · rw [upd_ne q] at e
      exact (I.hok b o e).stay (fun _ _ _ z => z) (fun _ z => nu z) fun _ _ z => nu z
end
/-- what the clause 'except x as n' wishes, where the error outlives it -/
def wKeep (K : PySem.W.Frag) (c : Value) (i : Nat) (ts : Addr → Value → Option Addr → TS) (Wout : WX) (D : Ends) : WX := fun cls d σ H =>
  ∃ b, PySem.W.exmOne K cls c = some b ∧ (b = true → d = none ∧ ∃ C, cls = .ref C ∧ ∀ a, H a = none → ts a cls d { nx := fun σ' H' => H' a = none → D.nx (σ'.set i none) (upd H' a (exO a C)), rt := fun _ _ => False, bk := fun _ _ => False, ct := fun _ _ => False } (σ.set i (some (.ref a))) H) ∧
    (b = false → Wout cls d σ H)
section
variable {X : Cx} {x n : Str} {c : Value} {i : Nat} {body suite : List Stmt} {b₀ : Stmt} {np pos pos' : Pos} {tb : WX → TS} {ts : Addr → Value → Option Addr → TS} {Wout : WX}
theorem sky_none {B : Heap} {l : List PySem.Env} {a : Addr} {Z : Obj → Prop} {L : Addr} {h : Heap} (k : Sky B l a Z L h) : B.get? a = none := by
  rcases k with k | k | k
  · exact k.2.1
  · exact k.2.1
  · exact k.2.1
theorem ps_try_keep (hs : X.stack = X.env :: X.outer) (hf : X.env.frame = some X.env.locals) (hN : X.N.Nodup) (hi : X.N[i]? = some n) (hln : X.env.kindOf n = some .local) (hc : Names X x c) (tk : Takes X Wout)
    (hb : ∀ (W : WX) (pn : List (Addr × Obj)) (xe : Value → Shared → Prop), Takes (X.tr pn xe) W → PassesOwn (model X.prog X.w) X.A X.env xe → PSs (X.tr pn xe) body (tb W))
    (hsu : ∀ (a : Addr) (oe : Obj) (cls : Value) (d : Option Addr) (pn : List (Addr × Obj)), Zc cls d oe → (∃ vs, oe.data = .fields vs) → PSs (X.suite a ((a, oe) :: pn)) (b₀ :: suite) (ts a cls d)) :
    PS X (.Try body [.ExceptHandler (some (.Name x np)) (some n) (b₀ :: suite) pos'] [] [] pos) (fun D σ H => tb (wKeep X.K c i ts Wout D) D σ H) := by
  refine ⟨fun pins s σ H D I h => ?_⟩
  have ok := I.ok
  have hfr : X.A.frames = some (X.env :: X.outer) := by rw [ok.frames, hs]
  have hloc : Loc X.env.scope n := .inl hln
  refine wpAny_Try_except ?_
  refine wpAny_mono ((hb (wKeep X.K c i ts Wout D) (X.pn ++ pins) (fun e s₁ => wpAny (model X.prog X.w) X.A (noteFrame e X.env) (fun _ s₂ => wpAny (model X.prog X.w) X.A (setFlight e none) (fun _ s₃ =>
    wpAny (model X.prog X.w) X.A (handleBy e X.env [.ExceptHandler (some (.Name x np)) (some n) (b₀ :: suite) pos']) (SP X pins D) X.xe s₃) X.xe s₂) X.xe s₁) (fun u s' xx => ?_) PassesOwn.looking).run [] s σ H D (I.toTry _) h) (fun f s1 hsp => ?_) (fun e s1 he => he)
  · -- the catch
    obtain ⟨a, B, sI, pins', σ', H', cls, d, rfl, J', nb, up, sky, na, os, ag, b, hb1, hyes, hno⟩ := xx
    have nBa : B.get? a = none := sky_none sky
    have J : Inv X pins σ' H' sI := J'.ofTry ok
    have sky' : Sky B (X.env :: X.outer) a (Zc cls d) X.env.locals s'.heap := by rw [← hs]; exact sky
    show wpAny (model X.prog X.w) X.A (noteFrame (.ref a) X.env) _ _ _
    refine Sky.land Zc.steady hfr hf sky' fun h3 fl3 up3 => ?_
    have J3 : Inv X pins σ' H' { s' with heap := h3 } := J.landed nb fl3.1 (up.trans up3) os ag
    obtain ⟨oe3, vs3, he3, hz3, hd3⟩ := fl3.there
    have notFr : ∀ {h : Heap} {o : Obj} {vs : Array Value}, h.FunFrames B (X.env :: X.outer) → h.get? a = some o → o.data = .fields vs → a ∉ frs (X.env :: X.outer) := fun {h o vs} ff e dd hm => by
      obtain ⟨_, o', e', hnf⟩ := ff.mem hm
      rw [e] at e'; cases e'
      exact hnf _ dd
    have nfr := notFr fl3.2.2.1 he3 hd3
    have nL : a ≠ X.env.locals := fun z => nfr (List.mem_filterMap.mpr ⟨X.env, List.mem_cons_self, by rw [hf, z]⟩)
    have nF : a ∉ X.fs := fun hm => by
      obtain ⟨e, he, q⟩ := List.mem_filterMap.mp hm
      exact nfr (List.mem_filterMap.mpr ⟨e, List.mem_cons_of_mem _ he, q⟩)
    have S3 := J3.suite he3 hd3 na nL nF
    refine wpAny_handleBy_cons (codeAny_handlers_test ?_) (by intro q; cases q)
    have LT : PySem.W.Looks (model X.prog X.w) h3 (typeOf (.ref a)) cls := fun A Q E s k q => wpAny_typeOf_ref (k _ _ he3) (by rw [hz3.1]; exact q)
    have LM := PySem.W.exm_one (M := model X.prog X.w) (J3.kIn) LT hb1
    have test : ∀ {Q : Value → Shared → Prop} {E : Value → Shared → Prop}, Q c { s' with heap := h3 } → wpAny (model X.prog X.w) (X.A.mark (some (.ref a))) (eval (.Name x np) X.env) Q E { s' with heap := h3 } := fun {Q E} q => by
      obtain ⟨hg, hdbg, hm | ⟨hm, hv, hnn⟩⟩ := hc
      · exact ld_glob (X := X.suite a ((a, oe3) :: (X.pn ++ pins))) S3 hg hm q hdbg
      · exact ld_blt (X := X.suite a ((a, oe3) :: (X.pn ++ pins))) S3 hg hm hv q hnn hdbg
    refine test (LM.here ?_)
    cases b with
    | true =>
      refine codeAny_handlers_suite_as ?_
      refine HandSPX.lands_againZ fl3 fun h4 fl4 up4 => ?_
      have J4 : Inv X pins σ' H' { s' with heap := h4 } := J.landed nb fl4.1 ((up.trans up3).trans up4) os ag
      obtain ⟨oe4, vs4, he4, hz4, hd4⟩ := fl4.there
      have S4 := J4.suite he4 hd4 na nL nF
      refine store_ok (X := X.suite a ((a, oe4) :: (X.pn ++ pins))) (v := .ref a) S4 hN hi hloc rfl (fun s5 S5 => ?_) (.inr hln)
      obtain ⟨rfl, C, rfl, hyes⟩ := hyes rfl
      refine wpAny_mono ((hsu a oe4 (.ref C) none (X.pn ++ pins) hz4 ⟨_, hd4⟩).run [] s5 _ H' _ S5 (hyes a na)) (fun f s6 hsp => ?_) (fun _ _ z => False.elim z)
      have n0 : ∀ o, X.s_0.heap.get? a = some o → a ∈ X.ex := fun o e => by
        refine Classical.byContradiction fun hx => ?_
        obtain ⟨o', e'⟩ := J.base.there a o e hx
        have hns : a ∉ frs X.stack := by rw [hs]; exact nfr
        have z := nb a o' e' hns
        rw [nBa] at z; cases z
      have npn : ∀ p ∈ X.pn ++ pins, p.1 ≠ a := fun p hp z => by
        obtain ⟨e, _, _, _, _⟩ := J.pin p hp
        have hns : p.1 ∉ frs X.stack := by rw [hs, z]; exact nfr
        have w := nb p.1 p.2 e hns
        rw [z, nBa] at w; cases w
      cases f with
      | next =>
        obtain ⟨σ6, H6, S6, q6⟩ := hsp
        obtain ⟨e6, na6, _⟩ := S6.pin (a, oe4) (List.mem_append_left _ List.mem_cons_self)
        have U6 : Inv X pins σ6 H6 s6 := S6.unsuite ok
        obtain ⟨z1, z2⟩ := hz4
        have V6 := Inv_keepX (C := C) U6 e6 z1 z2 hd4 na6 nL n0 npn
        exact gone_ok V6 hN hi hln fun s7 J7 => ⟨_, _, J7, q6 na6⟩
      | brk =>
        obtain ⟨σ6, H6, S6, q6⟩ := hsp
        exact q6.elim
      | cont =>
        obtain ⟨σ6, H6, S6, q6⟩ := hsp
        exact q6.elim
      | ret u =>
        obtain ⟨v6, σ6, H6, S6, r6, q6⟩ := hsp
        exact q6.elim
    | false =>
      show wpAny _ X.A (handleBy (.ref a) X.env []) _ _ _
      refine wpAny_handleBy_nil ?_
      obtain ⟨k1, k2, k3, oe, vs, T, oT, ts', he, hz, hd, h1, hr⟩ := id fl3
      unfold PySem.passOn
      refine wpAny_bind (wpAny_field he hd h1 ?_)
      rw [if_neg (show ¬ ((Value.ref T == Value.none) = true) from by simp)]
      have fin : wpAny (model X.prog X.w) X.A (setFlight (.ref a) X.env.frame) (fun _ s4 => wpAny (model X.prog X.w) X.A (throw (.ref a) : Sem Flow) (SP X pins D) X.xe s4) X.xe { s' with heap := h3 } := by
        rw [hf]
        refine HandSPX.setFlight_upZ fl3 fun h4 hh4 up4 => wpAny_throw (tk _ _ ?_)
        exact ⟨a, B, sI, pins, σ', H', cls, d, rfl, J, nb, (up.trans up3).trans up4, .inr (.inr (by rw [hs]; exact hh4)), na, os, ag, hno rfl⟩
      first
        | exact wpAny_bind (wpAny_pure (wpAny_bind fin))
        | exact wpAny_bind fin
  · cases f with
    | next =>
      obtain ⟨σ', H', J', q⟩ := hsp
      exact wpAny_execs_nil ⟨σ', H', J'.ofTry ok, q⟩
    | brk =>
      obtain ⟨σ', H', J', q⟩ := hsp
      exact ⟨σ', H', J'.ofTry ok, q⟩
    | cont =>
      obtain ⟨σ', H', J', q⟩ := hsp
      exact ⟨σ', H', J'.ofTry ok, q⟩
    | ret u =>
      obtain ⟨v, σ', H', J', r, q⟩ := hsp
      exact ⟨v, σ', H', J'.ofTry ok, r, q⟩
end

/-! ### try: .. except C as n: m = n -/
theorem Stt.reW {K : PySem.W.Frag} {C : Cc} {W : WX} {B H : Hp} {σ : L2.St} {ρ : Env} (S : Stt K { C with W := W } B H σ ρ) : Stt K C B H σ ρ := ⟨S.x, ⟨S.r.len, S.r.at', S.r.sep⟩⟩
theorem Stt.toW {K : PySem.W.Frag} {C : Cc} {W : WX} {B H : Hp} {σ : L2.St} {ρ : Env} (S : Stt K C B H σ ρ) : Stt K { C with W := W } B H σ ρ := ⟨S.x, ⟨S.r.len, S.r.at', S.r.sep⟩⟩
section
variable {X : Cx} {C : Cc} {x n m : Str} {i j : Nat} {body : List Stmt} {np p1 p2 p3 pos pos' : Pos} {g : DS} {ks : XK → Bool} {c : Value}
theorem xs_try (i j : Nat) (ks : XK → Bool) (hN : X.N.Nodup) (hc : Names X x c) (hk : ∀ k, PySem.W.exmOne X.K (.ref (C.ec k)) c = some (ks k))
    (hb : ∀ (W : WX) (pn : List (Addr × Obj)) (xe : Value → Shared → Prop), Takes (X.tr pn xe) W → PassesOwn (model X.prog X.w) X.A X.env xe → XSs (X.tr pn xe) { C with W := W } body g)
    (tk : Takes X C.W := by assumption) (hi : X.N[i]? = some n := by rfl) (hj : X.N[j]? = some m := by rfl) (hs : X.stack = X.env :: X.outer := by rfl) (hf : X.env.frame = some X.env.locals := by rfl) (hln : X.env.kindOf n = some .local := by rfl)
    (hij : i ≠ j := by decide) (hv : Vis X.env.scope n := by first | exact Or.inl rfl | exact Or.inr (Or.inl rfl) | exact Or.inr (Or.inr rfl)) (hd : (n == ("__debug__" : Str)) = false := by decide) (hcd : (n == ("__classdict__" : Str)) = false := by decide)
    (hm : Loc X.env.scope m := by first | exact Or.inl rfl | exact Or.inr rfl) (hsw : swapsWith (.Name n p2) (some (.Name m p1)) p3.line X.env = pure false := by rfl) (hfm : X.fn m = true ∨ X.env.scope.names.lookup m = some .local := by first | exact .inl rfl | exact .inr rfl | assumption) :
    XS X C (.Try body [.ExceptHandler (some (.Name x np)) (some n) [.Assign [.Name m p1] (.Name n p2) p3] pos'] [] [] pos) (sTry g ks i j) :=
  (ps_try_keep (b₀ := .Assign [.Name m p1] (.Name n p2) p3) (suite := []) (ts := fun _ _ _ => tAsg (tVar i) (gName j)) (tb := fun W => tS X.K { C with W := W } g) hs hf hN hi hln hc tk hb fun a oe cls d pn hz hv' =>
    pss_one (ps_set (X := X.suite a ((a, oe) :: pn)) hN hj hm (pe_var hi hv hd hcd) hsw hfm)).imp fun D σ H ⟨ρ, B, S, h⟩ => ⟨ρ, B, S.toW, by
      unfold sTry at h
      cases eg : g ρ with
      | nx ρ' => rw [eg] at h; exact fun σ' B' H' s S' => h σ' B' H' s S'.reW
      | rt d => rw [eg] at h; exact h
      | bk ρ' => rw [eg] at h; exact fun σ' B' H' s S' => h σ' B' H' s S'.reW
      | ct ρ' => rw [eg] at h; exact fun σ' B' H' s S' => h σ' B' H' s S'.reW
      | no => rw [eg] at h; exact h
      | er k ρ' =>
        rw [eg] at h
        simp only at h
        refine fun σ' B' H' s S' => ⟨ks k, hk k, fun hy => ⟨rfl, C.ec k, rfl, fun a na => ?_⟩, fun hn => ?_⟩
        · rw [if_pos hy] at h
          by_cases hl : i < ρ'.length
          case neg => rw [if_neg hl] at h; exact h.elim
          rw [if_pos hl] at h
          have hli : i < σ'.length := by rw [S'.r.len]; exact hl
          refine ⟨.ref a, List.getElem?_set_self hli, fun na2 => ?_⟩
          have e1 : (((σ'.set i (some (V.ref a))).set j (some (V.ref a))).set i none) = (σ'.set i none).set j (some (V.ref a)) := by
            rw [List.set_comm _ _ (Ne.symm hij), List.set_set]
          rw [e1]
          have x1 : Ext B' H' (upd B' a (exO a (C.ec k))) (upd H' a (exO a (C.ec k))) := Ext.new S'.reW.sm na
          have S2 := ((S'.reW.on x1).unset i).setA (v := .ref a) j (s := .ex k) ⟨a, rfl, upd_same⟩ rfl
          exact h _ _ _ (s.trans x1.b) S2
        · rw [if_neg (by rw [hn]; exact Bool.false_ne_true)] at h
          exact h σ' B' H' s S'.reW⟩
end

/-! ### isinstance of a kept error -/
def rIsX (K : PySem.W.Frag) (D : Addr) : List V → Hp → VK → Prop := fun xs H Q => ∃ (a : Addr) (c : V) (cv : Value) (b : Bool), xs = [.ref a, c] ∧ H a = some (exO a D) ∧ ClsV c cv ∧ PySem.W.kitOne K (.ref D) cv = some b ∧ Q (.bl b) H
theorem call_isX {X : Cx} : CallR X (.builtin "isinstance") (fun xs H Q => ∃ D, ExcC X.K D ∧ rIsX X.K D xs H Q) := by
  intro pins s σ H xs us Q I r h
  obtain ⟨D, C, a, c, cv, b, rfl, ha, hcv, e, q⟩ := h
  obtain ⟨u1, u2, rfl, r1, r2⟩ := vals2 r
  cases (show u1 = Value.ref a from r1)
  have ec := hcv.eq r2
  subst ec
  obtain ⟨⟨oe, vs, hget, h1, h2, h3⟩, _⟩ := I.hok a _ ha
  have J : PySem.W.InstAt s.heap a oe D none := by
    obtain ⟨oc, od, oda, osl⟩ := oe
    dsimp only at h1 h2 h3
    subst h1 h2 h3
    exact ⟨hget, rfl, rfl, trivial⟩
  exact PySem.W.kia_one (PySem.W.handS_kitx_exc C.hg C.hk C.hs C.hd C.ha C.hn C.ht C.hm) I.kIn J e (fun z => nomatch z) fun tk => ⟨.bl b, H, I.kept (t' := tk) fun _ _ z => z, rfl, q⟩
section
variable {X : Cx} {C : Cc} {x : Str} {a e o : Expr} {fb : DB} {f g : DE} {p p2 pos : Pos}
/-- what is known of the errors' classes -/
structure KXc (K : PySem.W.Frag) (ec : XK → Addr) : Prop where
  c : ∀ k, ExcC K (ec k)
  own : ∀ k k', PySem.W.kitOne K (.ref (ec k')) (.ref (ec k)) = some (decide (k' = k))
  val : ∀ k, PySem.W.kitOne K (.ref (ec k)) (.type "ValueError") = some true
theorem xe_isk (T : Txs X.mg) (Z : KXc X.K C.ec) (k : XK) (hx : X.mg x = some (.ref (C.ec k))) (ha : XB X C a fb) (hg : Gl X "isinstance" := by rfl) (hgx : Gl X x := by rfl) (hdx : (x == ("__debug__" : Str)) = false := by decide) (he : starEach (a :: [.Name x p2]) X.env = (false, eval a X.env) :: starEach [.Name x p2] X.env := by rfl)
    (hb : starEach (.Name x p2 :: []) X.env = (false, eval (.Name x p2) X.env) :: starEach [] X.env := by rfl) (hpl : (backTo pos (starEach [.Name x p2] X.env)).any (·.1) = false := by rfl) :
    XE X C (.Call (.Name "isinstance" p) [a, .Name x p2] [] pos) (dIsK k fb) :=
  (pe_callB call_isX hg T.isinstance (by decide +kernel) (pa_cons ha (pa_cons (pe_glob (v := .ref (C.ec k)) hgx hx rfl hdx) pa_nil hb) he) (he := he) (hpl := hpl)).imp fun σ H Q ⟨ρ, B, S, h⟩ => ⟨ρ, B, S, bindP h fun s _ h v1 B1 H1 x1 t1 => by
    cases s with
    | ex k' =>
      obtain ⟨a, rfl, t1⟩ := t1
      exact ⟨C.ec k', Z.c k', a, _, _, _, rfl, x1.s _ _ t1, .own _, Z.own k k', h _ B1 H1 x1 (.bl _)⟩
    | _ => exact h.elim⟩
theorem xe_isv (T : Txs X.mg) (Z : KXc X.K C.ec) (hx : X.mg "ValueError" = none) (ha : XB X C a fb) (hg : Gl X "isinstance" := by rfl) (hgx : Gl X "ValueError" := by rfl) (he : starEach (a :: [.Name "ValueError" p2]) X.env = (false, eval a X.env) :: starEach [.Name "ValueError" p2] X.env := by rfl)
    (hb : starEach (.Name "ValueError" p2 :: []) X.env = (false, eval (.Name "ValueError" p2) X.env) :: starEach [] X.env := by rfl) (hpl : (backTo pos (starEach [.Name "ValueError" p2] X.env)).any (·.1) = false := by rfl) :
    XE X C (.Call (.Name "isinstance" p) [a, .Name "ValueError" p2] [] pos) (dIsV fb) :=
  (pe_callB call_isX hg T.isinstance (by decide +kernel) (pa_cons ha (pa_cons (pe_bltn (v := .ty "ValueError") (u := .type "ValueError") hgx hx (by decide +kernel) rfl) pa_nil hb) he) (he := he) (hpl := hpl)).imp fun σ H Q ⟨ρ, B, S, h⟩ => ⟨ρ, B, S, bindP h fun s _ h v1 B1 H1 x1 t1 => by
    cases s with
    | ex k' =>
      obtain ⟨a, rfl, t1⟩ := t1
      exact ⟨C.ec k', Z.c k', a, _, _, _, rfl, x1.s _ _ t1, .ty _, Z.val k', h _ B1 H1 x1 (.bl _)⟩
    | _ => exact h.elim⟩

/-! ### l.count(x), l.index(x) -/
def rCountD (K : PySem.W.Frag) : V → List V → Hp → VK → Prop := fun x xs H Q => ∃ (a : Addr) (y : V) (d : PyData) (ds : List PyData), x = V.ref a ∧ xs = [y] ∧ Dp K H (V.ref a) (.list ds) ∧ Dp K H y d ∧
  SeqAt.shaped (.list ds) = true ∧ SeqAt.shaped d = true ∧ Q (.int (ds.countP fun z => PyData.eqv z d)) H
theorem mt_countD (hu : X.A.units + 65 < cLine) : MtR X "list.count" (rCountD X.K) := by
  intro pins s σ H x xs v us Q I rx rxs h
  obtain ⟨a, y, d, ds, rfl, rfl, hl, hy, sl, sd, q⟩ := h
  cases rx
  cases rxs with
  | cons ry rt =>
    rename_i uy ut
    cases rt
    obtain ⟨bs, r1⟩ := Dp.reads I d y uy hy ry
    have hxs : PyData.canLayAll0 ds = true := SeqAt.canLay_of_shaped sl
    have hroom : X.A.units + 1 + min (PyData.depthAll ds) d.depth < cLine := room_in_shaped sd hu
    cases hl with
    | lst hs ha =>
      obtain ⟨its, rv, ⟨⟨cls, dd, data, sls⟩, n, ho, hc, hdn, hdt⟩, hlen⟩ := I.list hs
      simp only at hc hdt
      subst hc hdt
      obtain ⟨as, h4⟩ := Dp.readsAll I ds _ its ha rv
      have hmap : its.map (SeqAt.readOf s.heap) = ds := SeqAt.readsAll_map ds its as hxs h4
      refine call_meets PySem.F.slot_list_count ⟨_, ho, rfl⟩ PySem.F.entry_list_count (PySem.F.args_list_count_2 _ _)
        (SeqAt.list_countAt a its.toArray n dd sls uy (fun u => PyData.eqv (SeqAt.readOf s.heap u) d)) ⟨ho, SeqAt.items_eqAt (vs := its.toArray) (show ReadsAll s.heap its.toArray.toList ds as from h4) r1 hxs (SeqAt.canLay_of_shaped sd) hroom, ?_⟩
      have ec : its.toArray.toList.countP (fun u => PyData.eqv (SeqAt.readOf s.heap u) d) = ds.countP fun z => PyData.eqv z d := by
        rw [← hmap, List.countP_map]
        rfl
      exact ⟨.int (ds.countP fun z => PyData.eqv z d), H, I.tok _, ⟨s.toks, by rw [ec]⟩, q⟩
variable {apos cpos : Pos}
theorem xe_cnt {k : Nat} (hr : Room k X.A) (ho : XE X C o f) (ha : XE X C e g) (hb : attributeBase o "count" X.env (eval o X.env) = eval o X.env := by rfl)
    (hfew : ((backTo cpos (starEach (e :: []) X.env)).all (fun x => !x.1) && (backToKw cpos (keywordEach [] X.env)).all (fun x => x.1.isSome) && decide ((e :: []).length + ([] : List Keyword).length + (if ([] : List Keyword).isEmpty then 0 else 1) < 30)) = true := by rfl)
    (hline : (apos.endLine == cpos.line) = true := by rfl) (hst : starEach (e :: []) X.env = (false, eval e X.env) :: starEach [] X.env := by rfl) :
    XE X C (.Call (.Attribute o "count" apos) [e] [] cpos) (dCnt f g) := by
  have hu65 : X.A.units + 65 < cLine := by have := hr.un; omega
  exact (pe_bm PySem.F.plainAttrs_list PySem.F.slot_list_count PySem.F.type_list_count (mt_countD hu65) ho (pa_cons ha pa_nil hst) hb hfew hline hst rfl).imp fun σ H Q ⟨ρ, B, S, h⟩ => ⟨ρ, B, S, bindP h fun l _ h v1 B1 H1 x1 t1 => by
    cases t1 with
    | @lst a xs ds h1 h2 =>
      refine ⟨.inl ⟨rfl, xs, SqL.of (x1.s _ _ h1)⟩, ρ, B1, S.on x1, bindP (pE.on (Q := Q) h x1) fun d _ h w B2 H2 x2 t2 => ?_⟩
      have h3 : pE C B1 H1 σ Q (if SeqAt.shaped d = true ∧ SeqAt.shaped (.list ds) = true then .ok (.int (ds.countP fun z => PyData.eqv z d)) else .no) := h
      by_cases z : SeqAt.shaped d = true ∧ SeqAt.shaped (.list ds) = true
      · rw [if_pos z] at h3
        exact ⟨a, w, d, ds, rfl, rfl, Dt.dp _ (((Dt.lst h1 h2).on x2.b).on x2.s), Dt.dp _ (t2.on x2.s), z.2, z.1, h3 _ B2 H2 x2 (.int _)⟩
      · rw [if_neg z] at h3; exact h3.elim
    | _ => exact h.elim⟩
theorem xe_idx {k : Nat} (hr : Room k X.A) (ho : XE X C o f) (ha : XE X C e g) (hb : attributeBase o "index" X.env (eval o X.env) = eval o X.env := by rfl)
    (hfew : ((backTo cpos (starEach (e :: []) X.env)).all (fun x => !x.1) && (backToKw cpos (keywordEach [] X.env)).all (fun x => x.1.isSome) && decide ((e :: []).length + ([] : List Keyword).length + (if ([] : List Keyword).isEmpty then 0 else 1) < 30)) = true := by rfl)
    (hline : (apos.endLine == cpos.line) = true := by rfl) (hst : starEach (e :: []) X.env = (false, eval e X.env) :: starEach [] X.env := by rfl) :
    XE X C (.Call (.Attribute o "index" apos) [e] [] cpos) (dIdx f g) := by
  have hu65 : X.A.units + 65 < cLine := by have := hr.un; omega
  exact (pe_bm PySem.F.plainAttrs_list PySem.F.slot_list_index PySem.F.type_list_index (mt_indexD hu65) ho (pa_cons ha pa_nil hst) hb hfew hline hst rfl).imp fun σ H Q ⟨ρ, B, S, h⟩ => ⟨ρ, B, S, bindP h fun l _ h v1 B1 H1 x1 t1 => by
    cases t1 with
    | @lst a xs ds h1 h2 =>
      refine ⟨.inl ⟨rfl, xs, SqL.of (x1.s _ _ h1)⟩, ρ, B1, S.on x1, bindP (pE.on (Q := Q) h x1) fun d _ h w B2 H2 x2 t2 => ?_⟩
      have h3 : pE C B1 H1 σ Q (if SeqAt.shaped d = true ∧ SeqAt.shaped (.list ds) = true then (ofO (ds.findIdx? fun z => PyData.eqv z d)).bind fun i => .ok (.int i) else .no) := h
      by_cases z : SeqAt.shaped d = true ∧ SeqAt.shaped (.list ds) = true
      · rw [if_pos z] at h3
        cases ei : ds.findIdx? fun z => PyData.eqv z d with
        | none => rw [ei] at h3; exact h3.elim
        | some j =>
          rw [ei] at h3
          obtain ⟨hj, q1, q2⟩ := List.findIdx?_eq_some_iff_getElem.mp ei
          refine ⟨a, w, d, ds, j, ds[j], rfl, rfl, Dt.dp _ (((Dt.lst h1 h2).on x2.b).on x2.s), Dt.dp _ (t2.on x2.s), z.2, z.1, List.getElem?_eq_getElem hj, q1, fun m z' hm hz => ?_, h3 _ B2 H2 x2 (.int _)⟩
          obtain ⟨hm', e'⟩ := List.getElem?_eq_some_iff.mp hz
          subst e'
          exact Bool.eq_false_iff.mpr (q2 m hm)
      · rw [if_neg z] at h3; exact h3.elim
    | _ => exact h.elim⟩
end
end MS

/-! MsLayJ: a list of lists of one's own (near). -/
namespace MS
open PySem L2 PyProof.Rows

theorem upd_no {H : Hp} {a b : Addr} {o u : HO} (e : H b = some u) (n : H a = none) : b ≠ a := fun z => by subst z; rw [n] at e; cases e
structure Nest (C : Cc) (B H : Hp) (a : Addr) (as : List Addr) (dss : List (List PyData)) : Prop where
  out : H a = some (.lst (as.map V.ref))
  ob : B a = none
  og : C.G a = none
  nd : as.Nodup
  na : a ∉ as
  len : as.length = dss.length
  inn : ∀ (i : Nat) (b : Addr) (ds : List PyData), as[i]? = some b → dss[i]? = some ds → ∃ xs, H b = some (.lst xs) ∧ B b = none ∧ C.G b = none ∧ DtAll B xs ds
section
variable {K : PySem.W.Frag} {C : Cc} {B H B' H' : Hp} {σ : L2.St} {ρ : Env} {a : Addr} {as : List Addr} {dss : List (List PyData)}
theorem Nest.on (N : Nest C B H a as dss) (x : Ext B H B' H') : Nest C B' H' a as dss :=
  ⟨x.h _ _ N.out, none_ext x N.out N.ob, N.og, N.nd, N.na, N.len, fun i b ds e1 e2 => by
    obtain ⟨xs, h1, h2, h3, h4⟩ := N.inn i b ds e1 e2
    exact ⟨xs, x.h _ _ h1, none_ext x h1 h2, h3, h4.on x.b⟩⟩
theorem nd_get {as : List Addr} (h : as.Nodup) {i j : Nat} {b : Addr} (e1 : as[i]? = some b) (e2 : as[j]? = some b) : i = j := by
  obtain ⟨l1, q1⟩ := List.getElem?_eq_some_iff.mp e1
  obtain ⟨l2, q2⟩ := List.getElem?_eq_some_iff.mp e2
  have p := List.pairwise_iff_getElem.mp (List.nodup_iff_pairwise_ne.mp h)
  rcases Nat.lt_trichotomy i j with q | q | q
  · exact absurd (q1.trans q2.symm) (p i j l1 l2 q)
  · exact q
  · exact absurd (q2.trans q1.symm) (p j i l2 l1 q)
theorem Nest.add (N : Nest C B H a as dss) {i : Nat} {b : Addr} {xs : List V} {ds : List PyData} {y : V} {d : PyData} (e1 : as[i]? = some b) (e2 : dss[i]? = some ds) (h : H b = some (.lst xs)) (t : Dt B y d) :
    Nest C B (upd H b (.lst (xs ++ [y]))) a as (dss.set i (ds ++ [d])) := by
  have hb : b ∈ as := List.mem_of_getElem? e1
  have hab : a ≠ b := fun z => N.na (z ▸ hb)
  refine ⟨by rw [upd_ne hab]; exact N.out, N.ob, N.og, N.nd, N.na, by rw [List.length_set]; exact N.len, fun j c es f1 f2 => ?_⟩
  by_cases q : i = j
  · subst q
    rw [e1] at f1
    have f1' : b = c := Option.some.inj f1
    subst f1'
    have hl : i < dss.length := (List.getElem?_eq_some_iff.mp e2).1
    rw [List.getElem?_set_self hl] at f2
    have f2' : ds ++ [d] = es := Option.some.inj f2
    subst f2'
    obtain ⟨xs', h1, h2, h3, h4⟩ := N.inn i b ds e1 e2
    rw [h] at h1
    cases h1
    exact ⟨_, upd_same, h2, h3, h4.app (.one t)⟩
  · rw [List.getElem?_set_ne q] at f2
    have hcb : c ≠ b := fun z => q (nd_get N.nd e1 (z ▸ f1))
    obtain ⟨xs', h1, h2, h3, h4⟩ := N.inn j c es f1 f2
    exact ⟨xs', by rw [upd_ne hcb]; exact h1, h2, h3, h4⟩
/-- a slot's knowledge is dropped -/
theorem Stt.sub {ρ' : Env} (S : Stt K C B H σ ρ') (hl : ρ.length = ρ'.length) (h : ∀ (i : Nat) (s : Sl), ρ[i]? = some s → s ≠ .nil → ρ'[i]? = some s) : Stt K C B H σ ρ :=
  ⟨S.x, ⟨by rw [hl]; exact S.r.len, fun i s e n => S.r.at' i s (h i s e n) n, fun i j s t v hij e1 e2 o1 o2 f1 f2 => S.r.sep i j s t v hij (h i s e1 (by rintro rfl; cases o1)) (h j t e2 (by rintro rfl; cases o2)) o1 o2 f1 f2⟩⟩
/-- nothing of one's own in the slots -/
def NoOwn (ρ : Env) : Prop := ∀ (i : Nat) (s : Sl), ρ[i]? = some s → s.own = false
theorem SlV.noB {v : V} {s : Sl} {B' : Hp} (h : SlV K C B H v s) (no : s.own = false) (sb : Same B B') : SlV K C B' H' v s := by
  cases s with
  | ow ds => cases no
  | dc kvs => cases no
  | nil => exact h
  | fz d => exact Dt.on h sb
  | ex k => exact SlA.on (K := K) (ec := C.ec) (s := .ex k) h sb
  | sc ns => exact SlA.on (K := K) (ec := C.ec) (s := .sc ns) h sb
theorem Stt.move (S : Stt K C B H σ ρ) (no : NoOwn ρ) (sb : Same B B') (x : Ext C.B0 C.G B' H') : Stt K C B' H' σ ρ :=
  ⟨x, ⟨S.r.len, fun i s e n => let ⟨v, h1, h2⟩ := S.r.at' i s e n; ⟨v, h1, h2.noB (no i s e) sb⟩, S.r.sep⟩⟩
theorem Ext.mutN {B0 G : Hp} {b : Addr} {o : HO} (x : Ext B0 G B H) (nb : B b = none) (ng : G b = none) : Ext B0 G B (upd H b o) :=
  ⟨x.b, fun c u e => by rw [upd_ne (upd_no (o := o) e ng)]; exact x.h _ _ e, fun c u e => by rw [upd_ne (upd_no (o := o) e nb)]; exact x.s _ _ e, x.n⟩
theorem Stt.mutN {b : Addr} {o : HO} (S : Stt K C B H σ ρ) (no : NoOwn ρ) (nb : B b = none) (ng : C.G b = none) : Stt K C B (upd H b o) σ ρ := S.move no (Same.refl _) (S.x.mutN nb ng)
theorem nest_all (N : Nest C B H a as dss) {B' : Hp} (sb : Same B B') (hb : ∀ b ∈ as, B' b = H b) : DtAll B' (as.map V.ref) (dss.map PyData.list) := by
  have : ∀ (as : List Addr) (dss : List (List PyData)), as.length = dss.length → (∀ b ∈ as, B' b = H b) → (∀ (i : Nat) (b : Addr) (ds : List PyData), as[i]? = some b → dss[i]? = some ds → ∃ xs, H b = some (.lst xs) ∧ B b = none ∧ C.G b = none ∧ DtAll B xs ds) → DtAll B' (as.map V.ref) (dss.map PyData.list) := by
    intro as
    induction as with
    | nil =>
      intro dss hl _ _
      cases dss with
      | nil => exact .nil
      | cons _ _ => cases hl
    | cons b as ih =>
      intro dss hl hb h
      cases dss with
      | nil => cases hl
      | cons ds dss =>
        obtain ⟨xs, h1, h2, h3, h4⟩ := h 0 b ds rfl rfl
        refine .cons (.lst ((hb b List.mem_cons_self).trans h1) (h4.on sb)) (ih dss (by simpa using hl) (fun c hc => hb c (List.mem_cons_of_mem _ hc)) fun i c es e1 e2 => h (i + 1) c es e1 e2)
  exact this as dss N.len hb N.inn
theorem Nest.frz (N : Nest C B H a as dss) (x : Ext C.B0 C.G B H) : ∃ B', Same B B' ∧ Ext C.B0 C.G B' H ∧ Dt B' (.ref a) (.list (dss.map PyData.list)) := by
  have hin : ∀ b ∈ as, B b = none ∧ C.G b = none := fun b hb => by
    obtain ⟨i, hi⟩ := List.mem_iff_getElem?.mp hb
    have hl : i < dss.length := by rw [← N.len]; exact (List.getElem?_eq_some_iff.mp hi).1
    obtain ⟨xs, h1, h2, h3, h4⟩ := N.inn i b _ hi (List.getElem?_eq_getElem hl)
    exact ⟨h2, h3⟩
  let B' : Hp := fun c => if c = a ∨ c ∈ as then H c else B c
  have eB : ∀ c, B' c = if c = a ∨ c ∈ as then H c else B c := fun _ => rfl
  have sb : Same B B' := fun c o e => by
    have : ¬ (c = a ∨ c ∈ as) := by
      rintro (rfl | h)
      · rw [N.ob] at e; cases e
      · rw [(hin c h).1] at e; cases e
    rw [eB, if_neg this]; exact e
  refine ⟨B', sb, ⟨x.b.trans sb, x.h, fun c o e => ?_, fun c o e => ?_⟩, .lst (by rw [eB, if_pos (.inl rfl)]; exact N.out) (nest_all N sb fun b hb => by rw [eB, if_pos (.inr hb)])⟩
  · rw [eB] at e
    split at e
    · exact e
    · exact x.s _ _ e
  · rw [eB] at e
    split at e
    · rename_i h
      rcases h with rfl | h
      · exact .inr (.inl N.og)
      · exact .inr (.inl (hin c h).2)
    · exact x.n _ _ e
end

/-! ### [[] for spot in ..] -/
theorem comp_nil {K : PySem.W.Frag} {C : Cc} {g : Tg} {tg : TG} {is vs : List Nat} (tk : TgOk K g tg is) (sub : ∀ i ∈ is, i ∈ vs) {it : DL} {σ : L2.St} {B H : Hp} {Q : VK} {ρ : Env} (S : Stt K C B H σ ρ) {ds : List PyData} (e : it ρ = .ok ds) (hz : ds.length ≤ lim)
    (hg : ∀ d, ∃ ρ1, g d (wipeE ρ vs) = .ok ρ1) (k : ∀ B' H' D as, Ext B H B' H' → Nest C B' H' D as (List.replicate ds.length []) → Q (.ref D) H') :
    tLc (tIb K C it) tg (tT K C.blk MS.tYes) (tL K C.blk lNil) vs σ H Q := by
  refine ⟨ρ, B, S, ?_⟩
  rw [e]
  intro J B1 H1 x1 w D hD
  let Pv : Nat → Hp → Prop := fun i H' => ∃ B' as, Ext B1 H1 B' H' ∧ Nest C B' H' D as (List.replicate i [])
  have gD : C.G D = none := ((S.on x1).x.h).free hD
  refine ⟨fun i m H' => m = ds.length - i ∧ i ≤ ds.length ∧ Pv i H', ⟨ds.length, by simp, Nat.zero_le _, B1, [], Ext.raw x1.s hD, upd_same, x1.s.free hD, gD, List.nodup_nil, List.not_mem_nil, rfl, fun i b ds e1 _ => by simp at e1⟩, ?_⟩
  rintro i m H' ⟨rfl, hi, B', as, x2, N⟩
  have sm' := x2.s
  by_cases hlt : i < ds.length
  · have ed : ds[i]? = some ds[i] := List.getElem?_eq_getElem hlt
    obtain ⟨go, yl⟩ := (w B' H' x2 sm' i).2 _ ed
    refine .inr ⟨go, Pv (i + 1), fun H2 p => ⟨ds.length - (i + 1), by omega, rfl, hlt, p⟩, fun x H2 y => ?_⟩
    obtain ⟨B2, x3, tx⟩ := yl x H2 y
    have Sw : Stt K C.blk B2 H2 (L2.wipe σ vs) (wipeE ρ vs) := ((((S.on x1).on x2).on x3).wipe vs).blk
    obtain ⟨ρ1, eg1⟩ := hg ds[i]
    refine tk.go Sw tx eg1 fun σ2 S2 hl2 hj2 => ⟨wipe_eq hl2 hj2 sub, ρ1, B2, S2, ?_⟩
    intro B3 H3 x4
    show tL K C.blk lNil σ2 H3 _
    refine ⟨ρ1, B3, S2.on x4, ?_⟩
    intro c xs B4 H4 x5 n3 n4 h4 t4
    cases t4
    have N4 := ((N.on x3).on x4).on x5
    have N3 := (N.on x3).on x4
    refine ⟨as.map V.ref, N4.out, ?_, B4, as ++ [c], ?_, ?_⟩
    · rw [List.length_map, N.len, List.length_replicate]
      exact lim_lt (by omega)
    · have x9 := ((x2.trans x3).trans x4).trans x5
      refine ⟨x9.b, fun b o q => ?_, fun b o q => ?_, x9.n⟩
      · rw [upd_ne (ne_of_none q hD)]
        exact x9.h _ _ q
      · have : b ≠ D := fun z => by rw [z, N4.ob] at q; cases q
        rw [upd_ne this]
        exact x9.s _ _ q
    · have hcD : c ≠ D := fun z => by
        have := N3.out
        rw [← z, n3] at this; cases this
      have hcas : c ∉ as := fun hb => by
        obtain ⟨j, hj⟩ := List.mem_iff_getElem?.mp hb
        have hl : j < (List.replicate i ([] : List PyData)).length := by rw [← N.len]; exact (List.getElem?_eq_some_iff.mp hj).1
        obtain ⟨ys, h1, _⟩ := N3.inn j c _ hj (List.getElem?_eq_getElem hl)
        rw [n3] at h1; cases h1
      have gc : C.G c = none := by
        have x9 := ((x1.trans x2).trans x3).trans x4
        exact ((S.on x9).x.h).free n3
      refine ⟨by rw [upd_same, List.map_append]; rfl, N4.ob, N4.og, ?_, ?_, by rw [List.length_append, List.length_replicate, N.len, List.length_replicate]; rfl, fun j b es f1 f2 => ?_⟩
      · rw [List.nodup_append]
        exact ⟨N.nd, by simp, fun p hp q hq z => by
          rw [List.mem_singleton] at hq
          subst hq; subst z
          exact hcas hp⟩
      · intro z
        rw [List.mem_append, List.mem_singleton] at z
        rcases z with z | z
        · exact N.na z
        · exact hcD z.symm
      · have ee : es = [] := by
          rw [List.getElem?_replicate] at f2
          split at f2
          · exact (Option.some.inj f2).symm
          · cases f2
        subst ee
        by_cases q : j < as.length
        · rw [List.getElem?_append_left q] at f1
          obtain ⟨ys, h1, h2, h3, h4'⟩ := N4.inn j b [] f1 (by
            rw [List.getElem?_replicate, if_pos]
            have := N.len
            rw [List.length_replicate] at this
            omega)
          have hbD : b ≠ D := fun z => N.na (z ▸ List.mem_of_getElem? f1)
          exact ⟨ys, by rw [upd_ne hbD]; exact h1, h2, h3, h4'⟩
        · rw [List.getElem?_append_right (by omega)] at f1
          have : b = c := by
            cases z : j - as.length with
            | zero => rw [z] at f1; exact (Option.some.inj f1).symm
            | succ n => rw [z] at f1; cases f1
          subst this
          exact ⟨[], by rw [upd_ne hcD]; exact h4, n4, gc, .nil⟩
  · have e : i = ds.length := by omega
    subst e
    exact .inl ⟨(w B' H' x2 sm' _).1 (Nat.le_refl _), k B' H' D as (x1.trans x2) N⟩

/-! ### l[i].append(x) -/
def tNapp (iF i j : Nat) : TS := fun D σ H => ∃ a vs k b xs y, σ[iF]? = some (some (V.ref a)) ∧ σ[i]? = some (some (V.int k)) ∧ σ[j]? = some (some y) ∧ H a = some (.lst vs) ∧ atI vs k = some (V.ref b) ∧ H b = some (.lst xs) ∧ xs.length < sizeLine ∧ D.nx σ (upd H b (.lst (xs ++ [y])))
section
variable {X : Cx} {C : Cc} {pos : Pos}
theorem ps_napp (iF i j : Nat) {f x y : Str} {fp xp yp sp apos cpos : Pos} (hF : X.N[iF]? = some f := by rfl) (hi : X.N[i]? = some x := by rfl) (hj : X.N[j]? = some y := by rfl)
    (vF : Vis X.env.scope f := by first | exact Or.inl rfl | exact Or.inr (Or.inl rfl) | exact Or.inr (Or.inr rfl)) (vi : Vis X.env.scope x := by first | exact Or.inl rfl | exact Or.inr (Or.inl rfl) | exact Or.inr (Or.inr rfl)) (vj : Vis X.env.scope y := by first | exact Or.inl rfl | exact Or.inr (Or.inl rfl) | exact Or.inr (Or.inr rfl))
    (df : (f == ("__debug__" : Str)) = false := by decide) (di : (x == ("__debug__" : Str)) = false := by decide) (dj : (y == ("__debug__" : Str)) = false := by decide)
    (cf : (f == ("__classdict__" : Str)) = false := by decide) (ci : (x == ("__classdict__" : Str)) = false := by decide) (cj : (y == ("__classdict__" : Str)) = false := by decide)
    (hpi : PlainIx (.Name x xp) := by intro _ _; rfl)
    (hst : starEach (.Name y yp :: []) X.env = (false, eval (.Name y yp) X.env) :: starEach [] X.env := by rfl) (hb : attributeBase (.Subscript (.Name f fp) (.Name x xp) sp) "append" X.env (eval (.Subscript (.Name f fp) (.Name x xp) sp) X.env) = eval (.Subscript (.Name f fp) (.Name x xp) sp) X.env := by rfl)
    (hfew : ((backTo cpos (starEach (.Name y yp :: []) X.env)).all (fun x => !x.1) && (backToKw cpos (keywordEach [] X.env)).all (fun x => x.1.isSome) && decide ((Expr.Name y yp :: []).length + ([] : List Keyword).length + (if ([] : List Keyword).isEmpty then 0 else 1) < 30)) = true := by rfl)
    (hline : (apos.endLine == cpos.line) = true := by rfl)
    (hs : swapsWith (.Call (.Attribute (.Subscript (.Name f fp) (.Name x xp) sp) "append" apos) [.Name y yp] [] cpos) none pos.line X.env = pure false := by rfl) :
    PS X (.Expr (.Call (.Attribute (.Subscript (.Name f fp) (.Name x xp) sp) "append" apos) [.Name y yp] [] cpos) pos) (tNapp iF i j) :=
  (ps_expr (pe_bm PySem.F.plainAttrs_list PySem.F.slot_list_append PySem.F.type_list_append mt_append (pe_ix ix_list (pe_var hF vF df cf) (pe_var hi vi di ci) hpi) (pa_cons (pe_var hj vj dj cj) pa_nil hst) hb hfew hline hst rfl) hs).imp fun D σ H ⟨a, vs, k, b, xs, y, h1, h2, h3, h4, h5, h6, h7, h8⟩ =>
    ⟨.ref a, h1, .int k, h2, a, vs, k, .ref b, rfl, rfl, SqL.of h4, h5, .inl ⟨rfl, xs, SqL.of h6⟩, y, h3, b, xs, y, rfl, rfl, h6, h7, h8⟩
theorem addAt_map (dss : List (List Int)) (i : Nat) (x : Int) (h : i < dss.length) : (addAt dss i x).map (fun ns => ns.map PyData.int) = (dss.map fun ns => ns.map PyData.int).set i ((dss.getD i []).map PyData.int ++ [PyData.int x]) := by
  unfold addAt
  rw [List.map_set, List.map_append]
  rfl
theorem pairsOf_get : ∀ {ls : List PyData} {ps : List (Int × Int)}, pairsOf ls = some ps → ls = ps.map prD
  | [], ps, h => by
    have h' : ([] : List (Int × Int)) = ps := Option.some.inj h
    subst h'; rfl
  | d :: ls, ps, h => by
    unfold pairsOf at h
    cases e1 : pairOf d with
    | none => rw [e1] at h; cases h
    | some p =>
      cases e2 : pairsOf ls with
      | none => rw [e1, e2] at h; cases h
      | some qs =>
        rw [e1, e2] at h
        have h' : p :: qs = ps := Option.some.inj h
        subst h'
        rw [List.map_cons, ← pairsOf_get e2]
        congr 1
        unfold pairOf at e1
        split at e1
        · have e1' := Option.some.inj e1
          subst e1'; rfl
        · cases e1
theorem xss_near (iw iF i1 i2 : Nat) {st1 st2 : Stmt} {rest : List Stmt} {g : DS} {gS : Tg} {gt g2 : TG} {is vs : List Nat}
    (h1 : PS X st1 (tAsg (tLc (tIb X.K C (iR1 (dIx (bVar iw) (dC (.int 0))))) gt (tT X.K C.blk MS.tYes) (tL X.K C.blk lNil) vs) (gName iF))) (tk : TgOk X.K gS gt is) (sub : ∀ i ∈ is, i ∈ vs) (hgS : ∀ d ρ, ∃ ρ1, gS d ρ = .ok ρ1)
    (h2 : PS X st2 (tFor (tI X.K C (iSeq (bOf (dIx (bVar iw) (dC (.int 1)))))) g2 (tSeq (tNapp iF i1 i2) (tNapp iF i2 i1)))) (tk2 : TgOk X.K (gT [i1, i2]) g2 [i1, i2])
    (h3 : XSs X C rest g) (n1 : iF ≠ i1) (n2 : iF ≠ i2) (n3 : i1 ≠ i2) (n4 : iw ≠ i1) (n5 : iw ≠ i2) (n6 : iw ≠ iF) : XSs X C (st1 :: st2 :: rest) (sSeq (sNear iw iF i1 i2) g) :=
  (pss_cons h1 (pss_cons h2 h3)).imp fun D σ H ⟨ρ, B, S, h⟩ => by
    have hn : sNear iw iF i1 i2 ρ ≠ .no := fun q => by
      have : sSeq (sNear iw iF i1 i2) g ρ = .no := by unfold sSeq; rw [q]
      rw [this] at h; exact h
    unfold sNear at hn
    split at hn
    · rename_i n ls eW
      split at hn
      · rename_i ps ep
        split at hn
        · rename_i hc
          have hcc := hc
          obtain ⟨⟨c1, c2, c3, c4⟩, c5, c6, c7, c8⟩ := hc
          have eg : sNear iw iF i1 i2 ρ = .nx (((ρ.set i1 .nil).set i2 .nil).set iF (.fz (.list ((nearGo ps (List.replicate n.toNat [])).map fun ns => .list (ns.map .int))))) := by
            unfold sNear
            rw [eW]
            simp only [ep]
            rw [if_pos hcc]
          have hS : sSeq (sNear iw iF i1 i2) g ρ = g (((ρ.set i1 .nil).set i2 .nil).set iF (.fz (.list ((nearGo ps (List.replicate n.toNat [])).map fun ns => .list (ns.map .int))))) := by
            unfold sSeq; rw [eg]
          rw [hS] at h
          have no : NoOwn ρ := fun i s e => by
            have := List.all_eq_true.mp c5 s (List.mem_of_getElem? e)
            simpa using this
          have els := pairsOf_get ep
          subst els
          have c4' : ∀ p ∈ ps, 0 ≤ p.1 ∧ p.1 < n ∧ 0 ≤ p.2 ∧ p.2 < n := fun p hp => of_decide_eq_true (List.all_eq_true.mp c4 p hp)
          have eit : iR1 (dIx (bVar iw) (dC (.int 0))) ρ = .ok (rngD 0 n.toNat) := by
            have : dIx (bVar iw) (dC (.int 0)) ρ = .ok (.int n) := by
              unfold dIx bVar dC
              rw [eW]
              rfl
            unfold iR1
            rw [this]
            show (if -1000000 ≤ n ∧ n ≤ 1000000 then Rs.ok (rngD 0 n.toNat) else .no) = _
            rw [if_pos (by omega)]
          show tLc _ _ _ _ _ σ H (fun x H1 => gName iF x σ H1 _)
          refine comp_nil tk sub S eit (by rw [rngD_len]; show n.toNat ≤ 1000000; omega) (fun d => hgS d _) fun B1 H1 D1 as x1 N1 => ?_
          rw [rngD_len] at N1
          -- the loop
          let ρ0 := ((ρ.set i1 Sl.nil).set i2 .nil).set iF .nil
          have get0 : ∀ (i : Nat) (s : Sl), ρ0[i]? = some s → s ≠ .nil → i ≠ i1 ∧ i ≠ i2 ∧ i ≠ iF ∧ ρ[i]? = some s := fun i s e ns => by
            rcases get_set_some e with ⟨_, z, _⟩ | ⟨q1, e⟩
            · exact absurd z ns
            · rcases get_set_some e with ⟨_, z, _⟩ | ⟨q2, e⟩
              · exact absurd z ns
              · rcases get_set_some e with ⟨_, z, _⟩ | ⟨q3, e⟩
                · exact absurd z ns
                · exact ⟨Ne.symm q3, Ne.symm q2, Ne.symm q1, e⟩
          have no0 : NoOwn ρ0 := fun i s e => by
            by_cases ns : s = .nil
            · subst ns; rfl
            · exact no i s (get0 i s e ns).2.2.2
          have len0 : ρ0.length = ρ.length := by simp [ρ0]
          have S1 : Stt X.K C B1 H1 σ ρ := S.on x1
          have hσl : σ.length = ρ.length := S.r.len
          have S2 : Stt X.K C B1 H1 (σ.set iF (some (V.ref D1))) ρ0 := by
            refine ⟨S1.x, ⟨by rw [List.length_set, len0]; exact hσl, fun i s e ns => ?_, fun i j s t v hij e1 e2 o1 o2 f1 f2 => ?_⟩⟩
            · obtain ⟨_, _, q, e'⟩ := get0 i s e ns
              obtain ⟨v, z1, z2⟩ := S1.r.at' i s e' ns
              exact ⟨v, by rw [List.getElem?_set_ne (Ne.symm q)]; exact z1, z2⟩
            · have := no0 i s e1
              rw [this] at o1; cases o1
          have eW0 : ρ0[iw]? = some (.fz (.tuple [.int n, .list (ps.map prD)])) := by
            show (((ρ.set i1 Sl.nil).set i2 .nil).set iF .nil)[iw]? = _
            rw [List.getElem?_set_ne (Ne.symm n6), List.getElem?_set_ne (Ne.symm n5), List.getElem?_set_ne (Ne.symm n4)]
            exact eW
          have eit2 : iSeq (bOf (dIx (bVar iw) (dC (.int 1)))) ρ0 = .ok (ps.map prD) := by
            have : dIx (bVar iw) (dC (.int 1)) ρ0 = .ok (.list (ps.map prD)) := by
              unfold dIx bVar dC
              rw [eW0]
              rfl
            unfold iSeq bOf
            rw [this]
            rfl
          refine ⟨ρ0, B1, S2, ?_⟩
          rw [eit2]
          intro J B2 H2 x2 w
          refine ⟨fun i m σ' H' => m = ps.length - i ∧ i ≤ ps.length ∧ ∃ B' dss, Same B2 B' ∧ Stt X.K C B' H' σ' ρ0 ∧ σ'[iF]? = some (some (V.ref D1)) ∧ Nest C B' H' D1 as (dss.map fun ns => ns.map PyData.int) ∧ dss.length = n.toNat ∧ (∀ j, (dss.getD j []).length ≤ 2 * i) ∧ nearGo (ps.drop i) dss = nearGo ps (List.replicate n.toNat []),
            ⟨ps.length, by simp, Nat.zero_le _, B2, List.replicate n.toNat [], Same.refl _, S2.on x2, List.getElem?_set_self (by rw [hσl]; exact c6), by
              have := N1.on x2
              rw [List.map_replicate]
              exact this, List.length_replicate, fun j => by
                rw [List.getD_eq_getElem?_getD, List.getElem?_replicate]
                split <;> simp, rfl⟩, ?_⟩
          rintro i m σ' H' ⟨rfl, hi, B', dss, sb, S', hF, N', hl, hb, hgo⟩
          by_cases hlt : i < ps.length
          · have ed : (ps.map prD)[i]? = some (prD ps[i]) := by rw [List.getElem?_map, List.getElem?_eq_getElem hlt]; rfl
            have edr : ps.drop i = ps[i] :: ps.drop (i + 1) := List.drop_eq_getElem_cons hlt
            obtain ⟨go, yl⟩ := (w B' H' sb S'.sm i).2 _ ed
            refine .inr ⟨go, fun σ2 H2 => ∃ B3 dss, Same B2 B3 ∧ Stt X.K C B3 H2 σ2 ρ0 ∧ σ2[iF]? = some (some (V.ref D1)) ∧ Nest C B3 H2 D1 as (dss.map fun ns => ns.map PyData.int) ∧ dss.length = n.toNat ∧ (∀ j, (dss.getD j []).length ≤ 2 * (i + 1)) ∧ nearGo (ps.drop (i + 1)) dss = nearGo ps (List.replicate n.toNat []),
              fun σ2 H2 p => ⟨ps.length - (i + 1), by omega, rfl, hlt, p⟩, fun x H3 y => ?_⟩
            obtain ⟨B3, x3, tx⟩ := yl x H3 y
            obtain ⟨a0, a1, a2, a3⟩ := c4' ps[i] (List.getElem_mem hlt)
            generalize hp : ps[i] = p at *
            obtain ⟨p1, p2⟩ := p
            simp only at a0 a1 a2 a3
            have eg2 : gT [i1, i2] (prD (p1, p2)) ρ0 = .ok ((ρ0.set i1 (.fz (.int p1))).set i2 (.fz (.int p2))) := rfl
            refine tk2.go (S'.on x3) tx eg2 fun σ2 T2 hl2 hj2 => ?_
            have N3 := N'.on x3
            have hF2 : σ2[iF]? = some (some (V.ref D1)) := by
              rw [hj2 iF (by simp [n1, n2])]
              exact hF
            have no2 : NoOwn ((ρ0.set i1 (.fz (.int p1))).set i2 (.fz (.int p2))) := fun j s e => by
              rcases get_set_some e with ⟨_, rfl, _⟩ | ⟨_, e⟩
              · rfl
              · rcases get_set_some e with ⟨_, rfl, _⟩ | ⟨_, e⟩
                · rfl
                · exact no0 j s e
            obtain ⟨v1, z1, t1⟩ := T2.r.at' i1 (.fz (.int p1)) (by rw [List.getElem?_set_ne (Ne.symm n3), List.getElem?_set_self (by rw [len0]; exact c7)]) (by intro q; cases q)
            obtain ⟨v2, z2, t2⟩ := T2.r.at' i2 (.fz (.int p2)) (by rw [List.getElem?_set_self (by rw [List.length_set, len0]; exact c8)]) (by intro q; cases q)
            cases (show Dt B3 v1 (.int p1) from t1)
            cases (show Dt B3 v2 (.int p2) from t2)
            have hlas : as.length = n.toNat := by rw [N3.len, List.length_map, hl]
            -- where the two lists lie
            have at_ : ∀ (q : Int), 0 ≤ q → q < n → ∃ b, as[q.toNat]? = some b ∧ atI (as.map V.ref) q = some (V.ref b) := fun q q0 q1 => by
              have hq : q.toNat < as.length := by omega
              refine ⟨as[q.toNat], List.getElem?_eq_getElem hq, ?_⟩
              rw [← atD_eq]
              unfold atD
              rw [if_pos q0, if_pos (by rw [List.length_map]; omega), List.getElem?_map, List.getElem?_eq_getElem hq]
              rfl
            obtain ⟨b1, hb1, hq1⟩ := at_ p1 a0 a1
            obtain ⟨b2, hb2, hq2⟩ := at_ p2 a2 a3
            have gd : ∀ (ds : List (List Int)) (q : Int), q.toNat < ds.length → (ds.map fun ns => ns.map PyData.int)[q.toNat]? = some ((ds.getD q.toNat []).map PyData.int) := fun ds q hq => by
              rw [List.getElem?_map, List.getD_eq_getElem?_getD, List.getElem?_eq_getElem hq]
              rfl
            have l1 : p1.toNat < dss.length := by omega
            have l2 : p2.toNat < dss.length := by omega
            obtain ⟨xs1, y1, y2, y3, y4⟩ := N3.inn p1.toNat b1 _ hb1 (gd dss p1 l1)
            have N4 := N3.add hb1 (gd dss p1 l1) y1 (d := .int p2) (.int p2)
            rw [← addAt_map dss p1.toNat p2 l1] at N4
            have T4 := T2.mutN (o := .lst (xs1 ++ [V.int p2])) no2 y2 y3
            have hl4 : (addAt dss p1.toNat p2).length = dss.length := by unfold addAt; rw [List.length_set]
            have l2' : p2.toNat < (addAt dss p1.toNat p2).length := by omega
            obtain ⟨xs2, w1, w2, w3, w4⟩ := N4.inn p2.toNat b2 _ hb2 (gd (addAt dss p1.toNat p2) p2 l2')
            have N5 := N4.add hb2 (gd (addAt dss p1.toNat p2) p2 l2') w1 (d := .int p1) (.int p1)
            rw [← addAt_map (addAt dss p1.toNat p2) p2.toNat p1 l2'] at N5
            have T5 := T4.mutN (o := .lst (xs2 ++ [V.int p1])) no2 w2 w3
            have bAdd : ∀ (ds : List (List Int)) (k : Nat) (z : Int) (M : Nat), (∀ j, (ds.getD j []).length ≤ M) → ∀ j, ((addAt ds k z).getD j []).length ≤ M + 1 := fun ds k z M hM j => by
              unfold addAt
              rw [List.getD_eq_getElem?_getD, List.getElem?_set]
              have h0 := hM k
              have h1 := hM j
              rw [List.getD_eq_getElem?_getD] at h0 h1
              split
              · split
                · simp only [Option.getD_some, List.length_append, List.length_singleton, List.getD_eq_getElem?_getD]; omega
                · simp
              · omega
            have lx1 : xs1.length < sizeLine := by
              rw [y4.len, List.length_map]
              have := hb p1.toNat
              exact lim_lt (by show _ ≤ 1000000; omega)
            have lx2 : xs2.length < sizeLine := by
              rw [w4.len, List.length_map]
              have := bAdd dss p1.toNat p2 _ hb p2.toNat
              exact lim_lt (by show _ ≤ 1000000; omega)
            refine ⟨D1, as.map V.ref, p1, b1, xs1, .int p2, hF2, z1, z2, N3.out, hq1, y1, lx1, D1, as.map V.ref, p2, b2, xs2, .int p1, hF2, z2, z1, N4.out, hq2, w1, lx2, ?_⟩
            refine ⟨B3, addAt (addAt dss p1.toNat p2) p2.toNat p1, sb.trans x3.b, T5.sub (by simp [ρ0]) fun j s e ns => ?_, hF2, N5, by unfold addAt; rw [List.length_set, List.length_set]; exact hl, fun j => ?_, ?_⟩
            · obtain ⟨q1, q2, _, _⟩ := get0 j s e ns
              rw [List.getElem?_set_ne (Ne.symm q2), List.getElem?_set_ne (Ne.symm q1)]
              exact e
            · have := bAdd _ p2.toNat p1 _ (bAdd dss p1.toNat p2 _ hb) j
              omega
            · rw [← hgo, edr]
              rfl
          · have e : i = ps.length := by omega
            subst e
            rw [List.drop_length] at hgo
            have hgo' : dss = nearGo ps (List.replicate n.toNat []) := hgo
            subst hgo'
            refine .inl ⟨(w B' H' sb S'.sm _).1 (by rw [List.length_map]; exact Nat.le_refl _), ?_⟩
            obtain ⟨B4, sb4, x4, t4⟩ := N'.frz S'.x
            have S4 := S'.move no0 sb4 x4
            have S5 : Stt X.K C B4 H' σ' (((ρ.set i1 .nil).set i2 .nil).set iF (.fz (.list ((nearGo ps (List.replicate n.toNat [])).map fun ns => .list (ns.map .int))))) := by
              rw [List.map_map] at t4
              have hli : iF < ((ρ.set i1 Sl.nil).set i2 .nil).length := by rw [List.length_set, List.length_set]; exact c6
              refine ⟨S4.x, ⟨by rw [List.length_set, List.length_set, List.length_set, S4.r.len, len0], fun j s e ns => ?_, fun j k s t v hjk e1 e2 o1 o2 f1 f2 => ?_⟩⟩
              · rcases get_set_some e with ⟨rfl, rfl, _⟩ | ⟨q, e⟩
                · exact ⟨_, hF, t4⟩
                · refine S4.r.at' j s ?_ ns
                  show (((ρ.set i1 Sl.nil).set i2 .nil).set iF .nil)[j]? = _
                  rw [List.getElem?_set_ne q]
                  exact e
              · have hno : s.own = false := by
                  rcases get_set_some e1 with ⟨_, rfl, _⟩ | ⟨q, e1⟩
                  · rfl
                  · refine no0 j s ?_
                    show (((ρ.set i1 Sl.nil).set i2 .nil).set iF .nil)[j]? = _
                    rw [List.getElem?_set_ne q]
                    exact e1
                rw [hno] at o1; cases o1
            exact ⟨_, B4, S5, h.on ((x1.b.trans x2.b).trans (sb.trans sb4))⟩
        · exact absurd rfl hn
      · exact absurd rfl hn
    · exact absurd rfl hn
end

/-! ### what the text's errors are, in the written part -/
theorem tok_n {K : PySem.W.Frag} (i : Nat) : TgOk K (gN i) (gName i) [i] := ⟨fun {C B H v d σ ρ ρ' Q} S t e k => by
      have e' : ρ.set i (.fz d) = ρ' := by injection e
      subst e'
      exact k _ (S.set i t) (List.length_set ..) (fun j hj => List.getElem?_set_ne (fun q => hj (by simp [q]))), fun _ _ _ h => by cases h⟩
structure TgsOk (tg : TGs) (is : List Nat) : Prop where
  go : ∀ {K : PySem.W.Frag} {C : Cc} {B H : Hp} {vs : List V} {ds : List PyData} {σ : L2.St} {ρ : Env} {Q : L2.St → Hp → Prop}, Stt K C B H σ ρ → DtAll B vs ds → ds.length = is.length → (∀ σ', Stt K C B H σ' (setAll is ds ρ) → σ'.length = σ.length → (∀ j, j ∉ is → σ'[j]? = σ[j]?) → Q σ' H) → tg vs σ H Q
theorem toks_nil : TgsOk gNil [] := ⟨fun {K C B H vs ds σ ρ Q} S t hl k => by
  cases ds with
  | nil => cases t; exact ⟨rfl, k σ S rfl fun _ _ => rfl⟩
  | cons _ _ => cases hl⟩
theorem toks_cons (i : Nat) {tg : TGs} {is : List Nat} (h2 : TgsOk tg is) : TgsOk (gCons (gName i) tg) (i :: is) := ⟨fun {K C B H vs ds σ ρ Q} S t hl k => by
  cases ds with
  | nil => cases hl
  | cons d ds =>
    cases t with
    | @cons v vs _ _ t1 t2 =>
      refine ⟨v, vs, rfl, ?_⟩
      refine h2.go (S.set i t1) t2 (by simpa using hl) fun σ' S' hl' hj => k σ' S' (by rw [hl', List.length_set]) fun j hj' => ?_
      rw [hj j (fun q => hj' (List.mem_cons_of_mem _ q)), List.getElem?_set_ne (fun q => hj' (by simp [q]))]⟩
theorem tok_t {K : PySem.W.Frag} {tg : TGs} {is : List Nat} (h : TgsOk tg is) : TgOk K (gT is) (gTup K is.length tg) is := ⟨(fun {C B H v d σ ρ ρ' Q} S t e k => by
    cases t with
    | @tup a xs ds h1 h2 =>
      obtain ⟨hl, e'⟩ := if_ok (show (if ds.length = is.length then Rs.ok (setAll is ds ρ) else .no) = .ok ρ' from e)
      subst e'
      exact ⟨a, xs, rfl, SqT.of (S.sm _ _ h1), by rw [h2.len]; exact hl, h.go S h2 hl k⟩
    | _ => cases e), fun d ρ k h => by
      unfold gT at h
      split at h
      · exact if_ne h
      · cases h⟩
def ecF (a b c d e f : Addr) : MS.XK → Addr
  | .web => a
  | .marks => b
  | .slide => c
  | .unlike => d
  | .tree => e
  | .text => f
theorem kit_own {K : PySem.W.Frag} {a b : Addr} {r : Bool} (i : PySem.W.isClsIn K b = true) (t : PySem.W.typeIn K (.ref b) = some (.type "type")) (s : PySem.W.subIn K (.ref a) (.ref b) = some r) (hr : a = b → r = true) : PySem.W.kitOne K (.ref a) (.ref b) = some r := by
  unfold PySem.W.kitOne
  split
  · rename_i h
    have : a = b := Value.ref.inj (beq_iff_eq.mp h)
    rw [hr this]
  · unfold PySem.W.kitCls
    have e2 : ((PySem.W.clsIn K b).isSome && PySem.W.typeIn K (.ref b) == some (.type "type")) = true := by
      have i' : (PySem.W.clsIn K b).isSome = true := i
      rw [i', t]; rfl
    show (if ((PySem.W.clsIn K b).isSome && PySem.W.typeIn K (.ref b) == some (.type "type")) = true then PySem.W.subIn K (.ref a) (.ref b) else none) = some r
    rw [if_pos e2]
    exact s
theorem kit_val {K : PySem.W.Frag} {a : Addr} {r : Bool} (s : PySem.W.subIn K (.ref a) (.type "ValueError") = some r) : PySem.W.kitOne K (.ref a) (.type "ValueError") = some r := by
  unfold PySem.W.kitOne
  rw [if_neg (by intro h; cases (beq_iff_eq.mp h))]
  show (if PySem.W.kitMeta "ValueError" = true then PySem.W.subIn K (.ref a) (.type "ValueError") else none) = some r
  rw [if_pos (by decide +kernel)]
  exact s
/-- one error's class -/
structure Kc (K : PySem.W.Frag) (x : Str) (C CS : Addr) : Prop where
  g : PySem.W.nsIn K mainGlobals x = some (some (.ref C))
  k : PySem.W.keepIn K (.ref C) = true
  x : PySem.W.excIn K C [.type "ValueError", .type "Exception", .type "BaseException", .type "object"] "ValueError.__new__" = true
  b : PySem.W.subIn K (.ref C) (.type "BaseException") = some true
  v : PySem.W.subIn K (.ref C) (.type "ValueError") = some true
  t : PySem.W.typeIn K (.ref C) = some (.type "type")
  i : PySem.W.isClsIn K C = true
  s : PySem.W.subIn K (.ref C) (.ref CS) = some true
  hg : PySem.W.findIn K (.ref C) "__getattribute__" = some (some (.builtin "BaseException.__getattribute__"))
  hk : PySem.W.findIn K (.ref C) "__getattr__" = some none
  hd : PySem.W.hasDictIn K C = true
  ha : PySem.W.findIn K (.ref C) "__class__" = some (some (.builtin "object.__class__"))
  hm : PySem.W.mroIn K C (.type "object") = some true
/-- the mother of them -/
structure Ks (K : PySem.W.Frag) (CS : Addr) : Prop where
  g : PySem.W.nsIn K mainGlobals "SlideError" = some (some (.ref CS))
  b : PySem.W.subIn K (.ref CS) (.type "BaseException") = some true
  t : PySem.W.typeIn K (.ref CS) = some (.type "type")
  hd : PySem.W.hasDictIn K CS = true
  hn : PySem.W.specialIn K (.builtin "object.__class__") "__get__" = some (some (.builtin "getset_descriptor.__get__"))
  ht : PySem.W.takesIn K (.builtin "object.__class__") = some true
def xName : MS.XK → Str
  | .web => "BadWeb"
  | .marks => "BadMarks"
  | .slide => "BadSlide"
  | .unlike => "Unlike"
  | .tree => "NoTree"
  | .text => "BadText"
/-- all of them -/
structure KAll (K : PySem.W.Frag) (mg : Str → Option Value) (ec : MS.XK → Addr) (CS : Addr) : Prop where
  sl : mg "SlideError" = some (.ref CS)
  e : ∀ k, ExT K mg (xName k) (ec k)
  exk : ∀ k, PySem.W.exmOne K (.ref (ec k)) (.ref CS) = some (ksAll k)
  kx : KXc K ec
  o : ∀ k k', PySem.W.subIn K (.ref (ec k')) (.ref (ec k)) = some (decide (k' = k))
theorem kall_mk {K : PySem.W.Frag} {h : Heap} {mg : Str → Option Value} {ec : MS.XK → Addr} {CS : Addr} (X : K.In h) (G : h.Ns mainGlobals mg) (S : Ks K CS) (c : ∀ k, Kc K (xName k) (ec k) CS) (o : ∀ k k', PySem.W.subIn K (.ref (ec k')) (.ref (ec k)) = some (decide (k' = k))) : KAll K mg ec CS where
  sl := PySem.W.mg_of X G S.g
  e := fun k => ⟨PySem.W.mg_of X G (c k).g, (c k).k, (c k).x, (c k).b, (c k).t⟩
  exk := fun k => PySem.W.exm_ref S.b S.hd S.t (c k).s
  kx := ⟨fun k => ⟨(c k).hg, (c k).hk, (c k).b, (c k).hd, (c k).ha, S.hn, S.ht, (c k).hm⟩, fun k k' => kit_own (c k).i (c k).t (o k k') fun e => by
    have h1 := o k k'
    have h2 := o k k
    rw [e] at h1
    rw [h1] at h2
    have := Option.some.inj h2
    rw [this]
    simp, fun k => kit_val (c k).v⟩
  o := o
/-- the promise of a law -/
def spLaw (K : PySem.W.Frag) : Sp := fun vs H Q _ => ∃ (a : Addr) (ns : List Int), vs = [.ref a] ∧ SqL K H a (ns.map V.int) ∧ ns.length ≤ 63 ∧ ∀ H', Q (.bl true) H'
theorem spLaw_D {K : PySem.W.Frag} {ec : MS.XK → Addr} {g : DF} (hg : ∀ ns : List Int, ns.length ≤ 63 → g [.sc ns] = .ok (.bool true)) {vs : List V} {H : Hp} {Q : VK} {E : L2.XK} (h : spLaw K vs H Q E) : spD K ec 1 g vs H Q E := by
  obtain ⟨a, ns, rfl, hS, hl, k⟩ := h
  refine ⟨rfl, H, [.sc ns], Same.refl _, .cons ⟨a, rfl, hS⟩ .nil, ?_⟩
  rw [hg ns hl]
  intro v B' H' x t
  cases t
  exact k H'
end MS

/-! MsLayR: the ground of a recursion: a promise about nothing. -/
namespace MS
open PySem L2 PyProof.Rows
theorem fn_no {P : Program} {w : World} {K : PySem.W.Frag} {mg : Str → Option Value} {base : Heap} {ec : XK → Addr} {f : Addr} {fd : FuncData} {ps : List Str} (k : Nat) : FnOk P w K mg base (L2.CX P w) k f fd ps (spD K ec ps.length fun _ => .no) :=
  ⟨fun _ _ _ _ h => h.1, fun _ _ _ _ _ _ _ _ _ _ _ _ _ hs => by
    obtain ⟨_, _, _, _, _, h⟩ := hs
    exact h.elim⟩
end MS

namespace MS
open PySem
def d_look_web : DF := runD (
  sSeq (sTg (gT [1, 2]) (dVar 0))
  (sSeq (sIf (tNot (tCh cLe cLe (dC (.int 1)) (dVar 1) (dC (.int 12))))
  (sRaise .web)
  sNx)
  (sFor (iR1 (dLen (bVar 2))) (gN 3)
  (sIf (tOr (tCmp cNe (dLen (bOf (dIx (bVar 2) (dVar 3)))) (dC (.int 2))) (tOr (tNot (tCh3 cLe cLt cLt (dC (.int 0)) (dIx (bOf (dIx (bVar 2) (dVar 3))) (dC (.int 0))) (dIx (bOf (dIx (bVar 2) (dVar 3))) (dC (.int 1))) (dVar 1))) (tAnd (tCmp cGt (dVar 3) (dC (.int 0))) (tNot (tCmp cLt (dIx (bVar 2) (dBin opSub (dVar 3) (dC (.int 1)))) (dIx (bVar 2) (dVar 3)))))))
  (sRaise .web)
  sNx)))) 4
def d_near : DF := runD (
  sSeq (sNear 0 1 2 3)
  (sRet (dLst (lComp (iSeq (bVar 1)) (gN 5) tYes (dLst (lSorted (bVar 5))) [5])))) 6
def d_is_marks : DF := runD (
  sSeq (sIf (tOr (tCmp cNe (dLst (lList (bVar 1))) (dLst (lSSI (dVar 1)))) (tNot (tTru (bOf (dAll (dLst (lComp (iSeq (bVar 1)) (gN 4) tYes (dT (tCh cLe cLt (dC (.int 0)) (dVar 4) (dIx (bVar 0) (dC (.int 0))))) [4])))))))
  (sRet (dC (.bool false)))
  sNx)
  (sRet (dNot (dAny (dLst (lComp (iSeq (bOf (dIx (bVar 0) (dC (.int 1))))) (gT [2, 3]) tYes (dAnd (dT (tIn (dVar 2) (bVar 1))) (dT (tIn (dVar 3) (bVar 1)))) [2, 3])))))) 5
def d_look_marks : DF := runD (
  sSeq (sExpr (dCall d_look_web (saCons (bVar 0) saNil)))
  (sIf (tNot (tTru (bOf (dCall d_is_marks (saCons (bVar 0) (saCons (bVar 1) saNil))))))
  (sRaise .marks)
  sNx)) 2
def d_parts : DF := runD (
  sSeq (sOwn 2 lNil)
  (sSeq (sFor (iSeq (bOf (dVar 1))) (gN 3)
  (sIf (tNot (tTru (bOf (dAny (dLst (lComp (iSeq (bVar 2)) (gN 4) tYes (dT (tIn (dVar 3) (bVar 4))) [4]))))))
  (sSeq (sOwn 4 (lCons (dVar 3) lNil))
  (sSeq (sSet 5 (dC (.int 0)))
  (sSeq (sWhile (tCmp cLt (dVar 5) (dLen (bVar 4)))
  (sSeq (sExt 4 (lComp (iSeq (bOf (dIx (bVar 0) (dIx (bVar 4) (dVar 5))))) (gN 6) (tAnd (tIn (dVar 6) (bVar 1)) (tNin (dVar 6) (bVar 4))) (dVar 6) [6]))
  (sSet 5 (dBin opAdd (dVar 5) (dC (.int 1))))) fuel)
  (sApp 2 (dLst (lSorted (bVar 4)))))))
  sNx))
  (sSeq (sFrz 2) (sRet (dVar 2))))) 7
def d_is_tree : DF := runD (
  sSeq (sExpr (dCall d_look_web (saCons (bVar 0) saNil)))
  (sRet (dAnd (dT (tCmp cEq (dLen (bOf (dIx (bVar 0) (dC (.int 1))))) (dBin opSub (dIx (bVar 0) (dC (.int 0))) (dC (.int 1))))) (dT (tCmp cEq (dLen (bOf (dCall d_parts (saCons (bOf (dCall d_near (saCons (bVar 0) saNil))) (saCons (bOf (dLst (iR1 (dIx (bVar 0) (dC (.int 0)))))) saNil))))) (dC (.int 1))))))) 1
def d_look_two : DF := runD (
  sSeq (sExpr (dCall d_look_marks (saCons (bVar 0) (saCons (bVar 1) saNil))))
  (sSeq (sExpr (dCall d_look_marks (saCons (bVar 0) (saCons (bVar 2) saNil))))
  (sIf (tCmp cNe (dLen (bVar 1)) (dLen (bVar 2)))
  (sRaise .unlike)
  sNx))) 3
def d_look_tree : DF := runD (
  sSeq (sExpr (dCall d_look_marks (saCons (bVar 0) (saCons (bVar 1) saNil))))
  (sIf (tNot (tTru (bOf (dCall d_is_tree (saCons (bVar 0) saNil)))))
  (sRaise .tree)
  sNx)) 2
def r_is_stiff : Nat → DF
  | 0 => fun _ => .no
  | fu + 1 => runD (
  sSeq (sFor (iSeq (bOf (dIx (bVar 0) (dVar 2)))) (gN 4)
  (sIf (tCmp cNe (dVar 4) (dVar 3))
  (sSeq (sSet 5 (dLst (lComp (iSeq (bOf (dIx (bVar 0) (dVar 4)))) (gN 6) (tAnd (tCmp cNe (dVar 6) (dVar 2)) (tIn (dVar 6) (bVar 1))) (dVar 6) [6])))
  (sIf (tNot (tTru (bOf (dAny (dLst (lComp (iSeq (bVar 5)) (gN 6) tYes (dCall (r_is_stiff fu) (saCons (bVar 0) (saCons (bVar 1) (saCons (bVar 6) (saCons (bVar 4) saNil))))) [6]))))))
  (sRet (dC (.bool false)))
  sNx))
  sNx))
  (sRet (dC (.bool true)))) 7
def d_is_stiff : DF := r_is_stiff 10
def d_stiff : DF := runD (
  sSeq (sExpr (dCall d_look_tree (saCons (bVar 0) (saCons (bVar 1) saNil))))
  (sSeq (sSet 2 (dCall d_near (saCons (bVar 0) saNil)))
  (sRet (dTuple (dLst (lComp (iSeq (bVar 1)) (gN 3) (tTru (bOf (dCall d_is_stiff (saCons (bVar 2) (saCons (bVar 1) (saCons (bVar 3) (saCons (bOf (dC .none)) saNil))))))) (dVar 3) [3])))))) 4
def d_free_parts : DF := runD (
  sSeq (sSet 2 (dCall d_stiff (saCons (bVar 0) (saCons (bVar 1) saNil))))
  (sSeq (sSet 3 (dCall d_near (saCons (bVar 0) saNil)))
  (sSeq (sOwn 4 lNil)
  (sSeq (sFor (iR1 (dIx (bVar 0) (dC (.int 0)))) (gN 5)
  (sIf (tAnd (tNin (dVar 5) (bVar 2)) (tNot (tTru (bOf (dAny (dLst (lComp (iSeq (bOf (dIx (bVar 3) (dVar 5)))) (gN 7) tYes (dT (tIn (dVar 7) (bVar 2))) [7])))))))
  (sApp 4 (dVar 5))
  sNx))
  (sSeq (sFrz 4) (sRet (dLst (lComp (iSeq (bOf (dCall d_parts (saCons (bVar 3) (saCons (bVar 4) saNil))))) (gN 6) tYes (dTup (lCons (dVar 6) (lCons (dLen (bOf (dLst (lComp (iSeq (bVar 6)) (gN 5) (tIn (dVar 5) (bVar 1)) (dVar 5) [5])))) lNil))) [6])))))))) 8
def d_tree_told : DF := runD (
  sSeq (sExpr (dCall d_look_two (saCons (bVar 0) (saCons (bVar 1) (saCons (bVar 2) saNil)))))
  (sSeq (sIf (tNot (tTru (bOf (dCall d_is_tree (saCons (bVar 0) saNil)))))
  (sRaise .tree)
  sNx)
  (sRet (dAnd (dT (tCmp cEq (dCall d_stiff (saCons (bVar 0) (saCons (bVar 1) saNil))) (dCall d_stiff (saCons (bVar 0) (saCons (bVar 2) saNil))))) (dT (tCmp cEq (dCall d_free_parts (saCons (bVar 0) (saCons (bVar 1) saNil))) (dCall d_free_parts (saCons (bVar 0) (saCons (bVar 2) saNil))))))))) 3
def d__law_cell : DF := runD (
  sSeq (sIf (tTru (bVar 0))
  (sRet (dIx (bVar 0) (dBin opMod (dVar 1) (dLen (bVar 0)))))
  sNx)
  (sRet (dC (.int 0)))) 2
def d__law_mix : DF := runD (
  sSeq (sSet 2 (dBin opMod (dBin opAdd (dCall d__law_cell (saCons (bVar 0) (saCons (bVar 1) saNil))) (dBin opMul (dC (.int 104729)) (dBin opAdd (dVar 1) (dC (.int 1))))) (dC (.int 4294967291))))
  (sSeq (sSet 2 (dBin opMod (dBin opMul (dVar 2) (dC (.int 48271))) (dC (.int 4294967279))))
  (sRet (dBin opMod (dBin opAdd (dBin opMul (dBin opDiv (dVar 2) (dC (.int 64))) (dC (.int 69621))) (dVar 2)) (dC (.int 4294967231)))))) 3
def d__law_web : DF := runD (
  sSeq (sSet 3 (dBin opAdd (dC (.int 1)) (dBin opMod (dCall d__law_mix (saCons (bVar 0) (saCons (bVar 1) saNil))) (dVar 2))))
  (sSeq (sSet 4 (dBin opMod (dCall d__law_mix (saCons (bVar 0) (saCons (bOf (dBin opAdd (dVar 1) (dC (.int 1)))) saNil))) (dC (.int 5))))
  (sSeq (sOwn 5 lNil)
  (sSeq (sFor (iR2 (dC (.int 1)) (dVar 3)) (gN 6)
  (sFor (iR1 (dVar 6)) (gN 7)
  (sSeq (sSet 8 (dBin opDiv (dCall d__law_mix (saCons (bVar 0) (saCons (bOf (dBin opAdd (dBin opAdd (dBin opAdd (dVar 1) (dC (.int 2))) (dBin opMul (dC (.int 9)) (dVar 7))) (dVar 6))) saNil))) (dC (.int 8))))
  (sSeq (sSet 9 (dAnd (dT (tCmp cLt (dVar 4) (dC (.int 2)))) (dT (tCmp cEq (dVar 7) (dBin opMod (dBin opDiv (dCall d__law_mix (saCons (bVar 0) (saCons (bOf (dBin opAdd (dBin opAdd (dVar 1) (dC (.int 90))) (dVar 6))) saNil))) (dC (.int 8))) (dVar 6))))))
  (sIf (tOr (tTru (bVar 9)) (tOr (tAnd (tCmp cEq (dVar 4) (dC (.int 2))) (tCmp cEq (dBin opAdd (dVar 7) (dC (.int 1))) (dVar 6))) (tAnd (tCmp cGt (dVar 4) (dC (.int 2))) (tCmp cLt (dBin opMod (dVar 8) (dC (.int 6))) (dBin opSub (dVar 4) (dC (.int 1)))))))
  (sApp 5 (dTup (lCons (dVar 7) (lCons (dVar 6) lNil))))
  sNx)))))
  (sSeq (sIf (tAnd (tCmp cEq (dVar 4) (dC (.int 2))) (tAnd (tCmp cGt (dVar 3) (dC (.int 2))) (tCmp cEq (dBin opMod (dCall d__law_mix (saCons (bVar 0) (saCons (bOf (dBin opAdd (dVar 1) (dC (.int 99)))) saNil))) (dC (.int 2))) (dC (.int 0)))))
  (sApp 5 (dTup (lCons (dC (.int 0)) (lCons (dBin opSub (dVar 3) (dC (.int 1))) lNil))))
  sNx)
  (sSeq (sFrz 5) (sRet (dTup (lCons (dVar 3) (lCons (dLst (lSSP (dVar 5))) lNil)))))))))) 10
def d__law_is_marks : DF := runD (
  sRet (dNot (dAny (dLst (lComp (iSeq (bOf (dIx (bVar 0) (dC (.int 1))))) (gT [2, 3]) tYes (dAnd (dT (tIn (dVar 2) (bVar 1))) (dT (tIn (dVar 3) (bVar 1)))) [2, 3]))))) 4
def d__law_marks : DF := runD (
  sSeq (sSet 4 (dTup lNil))
  (sSeq (sFor (iR1 (dBin opMod (dCall d__law_mix (saCons (bVar 0) (saCons (bVar 1) saNil))) (dBin opAdd (dVar 3) (dC (.int 1))))) (gN 5)
  (sSeq (sSet 6 (dLst (lComp (iR1 (dIx (bVar 2) (dC (.int 0)))) (gN 7) (tAnd (tNin (dVar 7) (bVar 4)) (tTru (bOf (dCall d__law_is_marks (saCons (bVar 2) (saCons (bOf (dBin opAdd (dVar 4) (dTup (lCons (dVar 7) lNil)))) saNil)))))) (dVar 7) [7])))
  (sIf (tCmp cNe (dVar 6) (dLst lNil))
  (sSet 4 (dTuple (dLst (lSorted (bOf (dBin opAdd (dVar 4) (dTup (lCons (dIx (bVar 6) (dBin opMod (dBin opDiv (dCall d__law_mix (saCons (bVar 0) (saCons (bOf (dBin opAdd (dBin opAdd (dVar 1) (dC (.int 1))) (dVar 5))) saNil))) (dC (.int 4))) (dLen (bVar 6)))) lNil))))))))
  sNx)))
  (sRet (dVar 4)))) 8
def d__law_moved : DF := runD (
  sRet (dTuple (dLst (lSorted (bOf (dBin opAdd (dLst (lComp (iSeq (bVar 0)) (gN 3) (tCmp cNe (dVar 3) (dVar 1)) (dVar 3) [3])) (dLst (lCons (dVar 2) lNil)))))))) 4
def d__law_slides : DF := runD (
  sSeq (sOwn 2 lNil)
  (sSeq (sFor (iSeq (bOf (dIx (bVar 0) (dC (.int 1))))) (gT [3, 4])
  (sFor (iSeq (bOf (dTup (lCons (dTup (lCons (dVar 3) (lCons (dVar 4) lNil))) (lCons (dTup (lCons (dVar 4) (lCons (dVar 3) lNil))) lNil))))) (gT [5, 6])
  (sIf (tAnd (tIn (dVar 5) (bVar 1)) (tAnd (tNin (dVar 6) (bVar 1)) (tTru (bOf (dCall d__law_is_marks (saCons (bVar 0) (saCons (bOf (dCall d__law_moved (saCons (bVar 1) (saCons (bVar 5) (saCons (bVar 6) saNil))))) saNil)))))))
  (sApp 2 (dTup (lCons (dVar 5) (lCons (dVar 6) lNil))))
  sNx)))
  (sRet (dLst (lSorted (bVar 2)))))) 7
def d__law_room : DF := runD (
  sSeq (sOwn 2 (lCons (dVar 1) lNil))
  (sSeq (sSet 3 (dC (.int 0)))
  (sSeq (sWhile (tCmp cLt (dVar 3) (dLen (bVar 2)))
  (sSeq (sFor (iSeq (bOf (dCall d__law_slides (saCons (bVar 0) (saCons (bOf (dIx (bVar 2) (dVar 3))) saNil))))) (gT [4, 5])
  (sSeq (sSet 6 (dCall d__law_moved (saCons (bOf (dIx (bVar 2) (dVar 3))) (saCons (bVar 4) (saCons (bVar 5) saNil)))))
  (sIf (tNin (dVar 6) (bVar 2))
  (sApp 2 (dVar 6))
  sNx)))
  (sSet 3 (dBin opAdd (dVar 3) (dC (.int 1))))) fuel)
  (sRet (dLst (lSorted (bVar 2))))))) 7
def d__law_refusal : DF := runD (
  sSeq (sIf (tIsN (bVar 0))
  (sRet (dC (.str "ok")))
  sNx)
  (sSeq (sSet 1 (dLst (lCons (dIsK .marks (bVar 0)) (lCons (dIsK .slide (bVar 0)) (lCons (dIsK .text (bVar 0)) lNil)))))
  (sSeq (sSet 1 (dBin opAdd (dVar 1) (dLst (lCons (dIsK .web (bVar 0)) (lCons (dIsK .tree (bVar 0)) (lCons (dIsK .unlike (bVar 0)) lNil))))))
  (sSeq (sIf (tOr (tCmp cNe (dCnt (dVar 1) (dC (.bool true))) (dC (.int 1))) (tNot (tTru (bOf (dIsV (bVar 0))))))
  (sRet (dC (.str "wrong")))
  sNx)
  (sRet (dIx (bOf (dLst (lCons (dC (.str "marks")) (lCons (dC (.str "slide")) (lCons (dC (.str "text")) (lCons (dC (.str "web")) (lCons (dC (.str "tree")) (lCons (dC (.str "unlike")) lNil)))))))) (dIdx (dVar 1) (dC (.bool true))))))))) 2
def d__law_got : DF := runD (
  sSeq (sSet 4 (dC .none))
  (sSeq (sSet 5 (dC .none))
  (sSeq (sTry (sIf (tCmp cEq (dVar 0) (dC (.int 0)))
  (sSet 5 (dCall d_stiff (saCons (bVar 1) (saCons (bVar 2) saNil))))
  (sSet 5 (dIf (tCmp cEq (dVar 0) (dC (.int 1))) (dCall d_free_parts (saCons (bVar 1) (saCons (bVar 2) saNil))) (dCall d_tree_told (saCons (bVar 1) (saCons (bVar 2) (saCons (bVar 3) saNil))))))) ksAll 6 4)
  (sRet (dIf (tIsN (bVar 4)) (dVar 5) (dCall d__law_refusal (saCons (bVar 4) saNil))))))) 7
def d__law_tree : DF := runD (
  sSeq (sSet 3 (dBin opAdd (dC (.int 1)) (dBin opMod (dCall d__law_mix (saCons (bVar 0) (saCons (bVar 1) saNil))) (dVar 2))))
  (sSeq (sOwn 4 lNil)
  (sSeq (sFor (iR2 (dC (.int 1)) (dVar 3)) (gN 5)
  (sApp 4 (dTup (lCons (dBin opMod (dBin opDiv (dCall d__law_mix (saCons (bVar 0) (saCons (bOf (dBin opAdd (dVar 1) (dVar 5))) saNil))) (dC (.int 8))) (dVar 5)) (lCons (dVar 5) lNil)))))
  (sRet (dTup (lCons (dVar 3) (lCons (dLst (lSorted (bVar 4))) lNil))))))) 6
def d__law_is_tree : DF := runD (
  sSeq (sSet 1 (dLst (lCons (dC (.int 0)) lNil)))
  (sSeq (sFor (iR1 (dIx (bVar 0) (dC (.int 0)))) (gN 2)
  (sFor (iSeq (bOf (dIx (bVar 0) (dC (.int 1))))) (gT [3, 4])
  (sIf (tCmp cNe (dT (tIn (dVar 3) (bVar 1))) (dT (tIn (dVar 4) (bVar 1))))
  (sSet 1 (dBin opAdd (dVar 1) (dLst (lCons (dVar 3) (lCons (dVar 4) lNil)))))
  sNx)))
  (sRet (dAnd (dT (tCmp cEq (dLenSet (dVar 1)) (dIx (bVar 0) (dC (.int 0))))) (dT (tCmp cEq (dLen (bOf (dIx (bVar 0) (dC (.int 1))))) (dBin opSub (dIx (bVar 0) (dC (.int 0))) (dC (.int 1))))))))) 5
def d__law_stiff : DF := runD (
  sSeq (sSet 2 (dLst lNil))
  (sSeq (sFor (iSeq (bOf (dCall d__law_room (saCons (bVar 0) (saCons (bVar 1) saNil))))) (gN 3)
  (sSet 2 (dBin opAdd (dVar 2) (dLst (lComp (iSeq (bOf (dCall d__law_slides (saCons (bVar 0) (saCons (bVar 3) saNil))))) (gT [5, 6]) tYes (dVar 5) [5, 6])))))
  (sRet (dTuple (dLst (lComp (iSeq (bVar 1)) (gN 4) (tNin (dVar 4) (bVar 2)) (dVar 4) [4])))))) 7
def d__law_parts : DF := runD (
  sSeq (sOwn 3 lNil)
  (sSeq (sFor (iR1 (dIx (bVar 0) (dC (.int 0)))) (gN 4)
  (sSeq (sSet 6 (dLst (lComp (iSeq (bOf (dIx (bVar 0) (dC (.int 1))))) (gT [9, 10]) (tIn (dVar 4) (bOf (dTup (lCons (dVar 9) (lCons (dVar 10) lNil))))) (dBin opSub (dBin opAdd (dVar 9) (dVar 10)) (dVar 4)) [9, 10])))
  (sIf (tAnd (tNin (dVar 4) (bVar 1)) (tNot (tTru (bOf (dAny (dLst (lComp (iSeq (bVar 6)) (gN 9) tYes (dT (tIn (dVar 9) (bVar 1))) [9])))))))
  (sApp 3 (dVar 4))
  sNx)))
  (sSeq (sOwn 5 lNil)
  (sSeq (sWhile (tTru (bVar 3))
  (sSeq (sFrz 3) (sSeq (sSet 7 (dSl (dVar 3) oN (oE (dC (.int 1)))))
  (sSeq (sFor (iR1 (dIx (bVar 0) (dC (.int 0)))) (gN 8)
  (sFor (iSeq (bOf (dIx (bVar 0) (dC (.int 1))))) (gT [9, 10])
  (sSeq (sSet 11 (dAnd (dT (tIn (dVar 9) (bVar 3))) (dT (tIn (dVar 10) (bVar 3)))))
  (sIf (tAnd (tTru (bVar 11)) (tCmp cNe (dT (tIn (dVar 9) (bVar 7))) (dT (tIn (dVar 10) (bVar 7)))))
  (sSet 7 (dBin opAdd (dVar 7) (dLst (lCons (dIf (tIn (dVar 9) (bVar 7)) (dVar 10) (dVar 9)) lNil))))
  sNx))))
  (sSeq (sApp 5 (dTup (lCons (dLst (lSorted (bVar 7))) (lCons (dLen (bOf (dLst (lComp (iSeq (bVar 7)) (gN 4) (tIn (dVar 4) (bVar 2)) (dVar 4) [4])))) lNil))))
  (sOwn 3 (lComp (iSeq (bVar 3)) (gN 4) (tNin (dVar 4) (bVar 7)) (dVar 4) [4])))))) fuel)
  (sSeq (sFrz 5) (sRet (dVar 5))))))) 12
def d__law_barred : DF := runD (
  sSeq (sSet 1 (dTup (lCons (dC (.int 7)) (lCons (dLst (lCons (dTup (lCons (dC (.int 0)) (lCons (dC (.int 1)) lNil))) (lCons (dTup (lCons (dC (.int 0)) (lCons (dC (.int 2)) lNil))) (lCons (dTup (lCons (dC (.int 0)) (lCons (dC (.int 3)) lNil))) (lCons (dTup (lCons (dC (.int 0)) (lCons (dC (.int 4)) lNil))) (lCons (dTup (lCons (dC (.int 3)) (lCons (dC (.int 5)) lNil))) (lCons (dTup (lCons (dC (.int 4)) (lCons (dC (.int 6)) lNil))) lNil))))))) lNil))))
  (sSeq (sSet 2 (dLst (lCons (dC (.int 3)) (lCons (dC (.int 4)) (lCons (dC (.int 5)) (lCons (dC (.int 6)) lNil))))))
  (sRet (dTup (lCons (dVar 1) (lCons (dTup (lCons (dC (.int 1)) (lCons (dC (.int 2)) (lCons (dIx (bVar 2) (dBin opMod (dCall d__law_mix (saCons (bVar 0) (saCons (bOf (dC (.int 131))) saNil))) (dC (.int 4)))) lNil)))) (lCons (dTup (lCons (dC (.int 1)) (lCons (dC (.int 2)) (lCons (dIx (bVar 2) (dBin opMod (dCall d__law_mix (saCons (bVar 0) (saCons (bOf (dC (.int 132))) saNil))) (dC (.int 4)))) lNil)))) lNil))))))) 3
def d_law : DF := runD (
  sSeq (sSet 1 (dCall d__law_web (saCons (bVar 0) (saCons (bOf (dC (.int 0))) (saCons (bOf (dC (.int 6))) saNil)))))
  (sSeq (sIf (tCmp cGt (dBin opMod (dCall d__law_mix (saCons (bVar 0) (saCons (bOf (dC (.int 100))) saNil))) (dC (.int 4))) (dC (.int 0)))
  (sSet 1 (dCall d__law_tree (saCons (bVar 0) (saCons (bOf (dC (.int 0))) (saCons (bOf (dC (.int 8))) saNil)))))
  sNx)
  (sSeq (sSet 2 (dCall d__law_marks (saCons (bVar 0) (saCons (bOf (dC (.int 110))) (saCons (bVar 1) (saCons (bOf (dC (.int 4))) saNil))))))
  (sSeq (sSet 3 (dCall d__law_room (saCons (bVar 1) (saCons (bVar 2) saNil))))
  (sSeq (sSet 4 (dIx (bVar 3) (dBin opMod (dCall d__law_mix (saCons (bVar 0) (saCons (bOf (dC (.int 120))) saNil))) (dLen (bVar 3)))))
  (sSeq (sIf (tCmp cEq (dBin opMod (dCall d__law_mix (saCons (bVar 0) (saCons (bOf (dC (.int 121))) saNil))) (dC (.int 2))) (dC (.int 0)))
  (sSet 4 (dCall d__law_marks (saCons (bVar 0) (saCons (bOf (dC (.int 122))) (saCons (bVar 1) (saCons (bOf (dC (.int 4))) saNil))))))
  sNx)
  (sSeq (sIf (tCmp cEq (dBin opMod (dCall d__law_mix (saCons (bVar 0) (saCons (bOf (dC (.int 130))) saNil))) (dC (.int 6))) (dC (.int 0)))
  (sSeq (sTg (gT [1, 2, 4]) (dCall d__law_barred (saCons (bVar 0) saNil)))
  (sSet 3 (dCall d__law_room (saCons (bVar 1) (saCons (bVar 2) saNil)))))
  sNx)
  (sSeq (sIf (tNot (tTru (bOf (dCall d__law_is_tree (saCons (bVar 1) saNil)))))
  (sSeq (sSet 8 (dIf (tCmp cEq (dLen (bVar 4)) (dLen (bVar 2))) (dC (.str "tree")) (dC (.str "unlike"))))
  (sRet (dT (tCmp cEq (dLst (lComp (iR1 (dC (.int 3))) (gN 9) tYes (dCall d__law_got (saCons (bVar 9) (saCons (bVar 1) (saCons (bVar 2) (saCons (bVar 4) saNil))))) [9])) (dLst (lCons (dC (.str "tree")) (lCons (dC (.str "tree")) (lCons (dVar 8) lNil))))))))
  sNx)
  (sSeq (sSet 5 (dCall d__law_stiff (saCons (bVar 1) (saCons (bVar 2) saNil))))
  (sSeq (sSet 6 (dCall d__law_parts (saCons (bVar 1) (saCons (bVar 5) (saCons (bVar 2) saNil)))))
  (sSeq (sIf (tOr (tCmp cNe (dCall d__law_got (saCons (bOf (dC (.int 0))) (saCons (bVar 1) (saCons (bVar 2) (saCons (bOf (dTup lNil)) saNil))))) (dVar 5)) (tCmp cNe (dCall d__law_got (saCons (bOf (dC (.int 1))) (saCons (bVar 1) (saCons (bVar 2) (saCons (bOf (dTup lNil)) saNil))))) (dVar 6)))
  (sRet (dC (.bool false)))
  sNx)
  (sSeq (sSet 7 (dCall d__law_got (saCons (bOf (dC (.int 2))) (saCons (bVar 1) (saCons (bVar 2) (saCons (bVar 4) saNil))))))
  (sSeq (sIf (tCmp cNe (dLen (bVar 4)) (dLen (bVar 2)))
  (sRet (dT (tCmp cEq (dVar 7) (dC (.str "unlike")))))
  sNx)
  (sSeq (sIf (tOr (tNot (tTru (bOf (dIsB (bVar 7))))) (tCmp cNe (dVar 7) (dT (tIn (dVar 4) (bVar 3)))))
  (sRet (dC (.bool false)))
  sNx)
  (sSeq (sIf (tCmp cNe (dLst (lComp (iR1 (dC (.int 3))) (gN 9) tYes (dCall d__law_got (saCons (bVar 9) (saCons (bVar 1) (saCons (bOf (dTup (lCons (dC (.int 99)) lNil))) (saCons (bOf (dTup (lCons (dC (.int 98)) lNil))) saNil))))) [9])) (dBin opMul (dLst (lCons (dC (.str "marks")) lNil)) (dC (.int 3))))
  (sRet (dC (.bool false)))
  sNx)
  (sRet (dT (tCmp cEq (dLst (lComp (iR1 (dC (.int 3))) (gN 9) tYes (dCall d__law_got (saCons (bVar 9) (saCons (bOf (dTup (lCons (dC (.int 13)) (lCons (dLst lNil) lNil)))) (saCons (bOf (dTup (lCons (dC (.int 99)) lNil))) (saCons (bOf (dTup (lCons (dC (.int 98)) lNil))) saNil))))) [9])) (dBin opMul (dLst (lCons (dC (.str "web")) lNil)) (dC (.int 3))))))))))))))))))))) 10
end MS

namespace MS
open PySem L2 PyProof.Rows
def top (i : Nat) : Stmt := PySem.Challenge.pw_markslide_k20_whole_trees.main.body.getD i (.Pass ⟨0, 0, 0, 0⟩)
structure Tx (K : PySem.W.Frag) (mg : Str → Option Value) (ec : MS.XK → Addr) (CS : Addr) : Prop where
  k : KAll K mg ec CS
  c_MOST_SPOTS : ∃ t, mg "MOST_SPOTS" = some (.int 12 t)
abbrev s_look_web : Stmt := top 10
abbrev N_look_web : List Str := ["web", "many", "lines", "k"]
theorem sc_look_web : FnScope N_look_web ["web"] (defScope s_look_web) := ⟨rfl, rfl, rfl, by decide +kernel, rfl, by decide +kernel, by decide +kernel⟩
abbrev s_near : Stmt := top 11
abbrev N_near : List Str := ["web", "found", "one", "other", "spot", "some"]
theorem sc_near : FnScope N_near ["web"] (defScope s_near) := ⟨rfl, rfl, rfl, by decide +kernel, rfl, by decide +kernel, by decide +kernel⟩
abbrev s_is_marks : Stmt := top 12
abbrev N_is_marks : List Str := ["web", "marks", "one", "other", "spot"]
theorem sc_is_marks : FnScope N_is_marks ["web", "marks"] (defScope s_is_marks) := ⟨rfl, rfl, rfl, by decide +kernel, rfl, by decide +kernel, by decide +kernel⟩
abbrev s_look_marks : Stmt := top 13
abbrev N_look_marks : List Str := ["web", "marks"]
theorem sc_look_marks : FnScope N_look_marks ["web", "marks"] (defScope s_look_marks) := ⟨rfl, rfl, rfl, by decide +kernel, rfl, by decide +kernel, by decide +kernel⟩
abbrev s_parts : Stmt := top 14
abbrev N_parts : List Str := ["beside", "some", "found", "spot", "part", "at", "other"]
theorem sc_parts : FnScope N_parts ["beside", "some"] (defScope s_parts) := ⟨rfl, rfl, rfl, by decide +kernel, rfl, by decide +kernel, by decide +kernel⟩
abbrev s_is_tree : Stmt := top 15
abbrev N_is_tree : List Str := ["web"]
theorem sc_is_tree : FnScope N_is_tree ["web"] (defScope s_is_tree) := ⟨rfl, rfl, rfl, by decide +kernel, rfl, by decide +kernel, by decide +kernel⟩
abbrev s_look_two : Stmt := top 17
abbrev N_look_two : List Str := ["web", "marks", "goal"]
theorem sc_look_two : FnScope N_look_two ["web", "marks", "goal"] (defScope s_look_two) := ⟨rfl, rfl, rfl, by decide +kernel, rfl, by decide +kernel, by decide +kernel⟩
abbrev s_look_tree : Stmt := top 19
abbrev N_look_tree : List Str := ["web", "marks"]
theorem sc_look_tree : FnScope N_look_tree ["web", "marks"] (defScope s_look_tree) := ⟨rfl, rfl, rfl, by decide +kernel, rfl, by decide +kernel, by decide +kernel⟩
abbrev s_is_stiff : Stmt := top 20
abbrev N_is_stiff : List Str := ["beside", "marks", "spot", "back", "other", "ahead", "one"]
theorem sc_is_stiff : FnScope N_is_stiff ["beside", "marks", "spot", "back"] (defScope s_is_stiff) := ⟨rfl, rfl, rfl, by decide +kernel, rfl, by decide +kernel, by decide +kernel⟩
abbrev s_stiff : Stmt := top 21
abbrev N_stiff : List Str := ["web", "marks", "beside", "spot"]
theorem sc_stiff : FnScope N_stiff ["web", "marks"] (defScope s_stiff) := ⟨rfl, rfl, rfl, by decide +kernel, rfl, by decide +kernel, by decide +kernel⟩
abbrev s_free_parts : Stmt := top 22
abbrev N_free_parts : List Str := ["web", "marks", "some", "beside", "free", "spot", "part", "other"]
theorem sc_free_parts : FnScope N_free_parts ["web", "marks"] (defScope s_free_parts) := ⟨rfl, rfl, rfl, by decide +kernel, rfl, by decide +kernel, by decide +kernel⟩
abbrev s_tree_told : Stmt := top 23
abbrev N_tree_told : List Str := ["web", "marks", "goal"]
theorem sc_tree_told : FnScope N_tree_told ["web", "marks", "goal"] (defScope s_tree_told) := ⟨rfl, rfl, rfl, by decide +kernel, rfl, by decide +kernel, by decide +kernel⟩
abbrev s__law_cell : Stmt := top 25
abbrev N__law_cell : List Str := ["_law_script", "_law_k"]
theorem sc__law_cell : FnScope N__law_cell ["_law_script", "_law_k"] (defScope s__law_cell) := ⟨rfl, rfl, rfl, by decide +kernel, rfl, by decide +kernel, by decide +kernel⟩
abbrev s__law_mix : Stmt := top 26
abbrev N__law_mix : List Str := ["_law_script", "_law_k", "_law_number"]
theorem sc__law_mix : FnScope N__law_mix ["_law_script", "_law_k"] (defScope s__law_mix) := ⟨rfl, rfl, rfl, by decide +kernel, rfl, by decide +kernel, by decide +kernel⟩
abbrev s__law_web : Stmt := top 27
abbrev N__law_web : List Str := ["_law_script", "_law_k", "_law_places", "_law_many", "_law_way", "_law_lines", "_law_other", "_law_one", "_law_number", "_law_bush"]
theorem sc__law_web : FnScope N__law_web ["_law_script", "_law_k", "_law_places"] (defScope s__law_web) := ⟨rfl, rfl, rfl, by decide +kernel, rfl, by decide +kernel, by decide +kernel⟩
abbrev s__law_is_marks : Stmt := top 28
abbrev N__law_is_marks : List Str := ["_law_web_here", "_law_marks_here", "_law_one", "_law_other"]
theorem sc__law_is_marks : FnScope N__law_is_marks ["_law_web_here", "_law_marks_here"] (defScope s__law_is_marks) := ⟨rfl, rfl, rfl, by decide +kernel, rfl, by decide +kernel, by decide +kernel⟩
abbrev s__law_marks : Stmt := top 29
abbrev N__law_marks : List Str := ["_law_script", "_law_k", "_law_web_here", "_law_most", "_law_found", "_law_j", "_law_free", "_law_spot"]
theorem sc__law_marks : FnScope N__law_marks ["_law_script", "_law_k", "_law_web_here", "_law_most"] (defScope s__law_marks) := ⟨rfl, rfl, rfl, by decide +kernel, rfl, by decide +kernel, by decide +kernel⟩
abbrev s__law_moved : Stmt := top 30
abbrev N__law_moved : List Str := ["_law_marks_here", "_law_one", "_law_other", "_law_spot"]
theorem sc__law_moved : FnScope N__law_moved ["_law_marks_here", "_law_one", "_law_other"] (defScope s__law_moved) := ⟨rfl, rfl, rfl, by decide +kernel, rfl, by decide +kernel, by decide +kernel⟩
abbrev s__law_slides : Stmt := top 31
abbrev N__law_slides : List Str := ["_law_web_here", "_law_marks_here", "_law_found", "_law_one", "_law_other", "_law_first", "_law_second"]
theorem sc__law_slides : FnScope N__law_slides ["_law_web_here", "_law_marks_here"] (defScope s__law_slides) := ⟨rfl, rfl, rfl, by decide +kernel, rfl, by decide +kernel, by decide +kernel⟩
abbrev s__law_room : Stmt := top 32
abbrev N__law_room : List Str := ["_law_web_here", "_law_marks_here", "_law_found", "_law_at", "_law_one", "_law_other", "_law_goal"]
theorem sc__law_room : FnScope N__law_room ["_law_web_here", "_law_marks_here"] (defScope s__law_room) := ⟨rfl, rfl, rfl, by decide +kernel, rfl, by decide +kernel, by decide +kernel⟩
abbrev s__law_refusal : Stmt := top 33
abbrev N__law_refusal : List Str := ["_law_kept", "_law_kinds"]
theorem sc__law_refusal : FnScope N__law_refusal ["_law_kept"] (defScope s__law_refusal) := ⟨rfl, rfl, rfl, by decide +kernel, rfl, by decide +kernel, by decide +kernel⟩
abbrev s__law_got : Stmt := top 34
abbrev N__law_got : List Str := ["_law_way", "_law_web_here", "_law_marks_here", "_law_goal", "_law_kept", "_law_found", "e"]
theorem sc__law_got : FnScope N__law_got ["_law_way", "_law_web_here", "_law_marks_here", "_law_goal"] (defScope s__law_got) := ⟨rfl, rfl, rfl, by decide +kernel, rfl, by decide +kernel, by decide +kernel⟩
abbrev s__law_tree : Stmt := top 35
abbrev N__law_tree : List Str := ["_law_script", "_law_k", "_law_places", "_law_many", "_law_lines", "_law_other"]
theorem sc__law_tree : FnScope N__law_tree ["_law_script", "_law_k", "_law_places"] (defScope s__law_tree) := ⟨rfl, rfl, rfl, by decide +kernel, rfl, by decide +kernel, by decide +kernel⟩
abbrev s__law_is_tree : Stmt := top 36
abbrev N__law_is_tree : List Str := ["_law_web_here", "_law_known", "_law_turn", "_law_one", "_law_other"]
theorem sc__law_is_tree : FnScope N__law_is_tree ["_law_web_here"] (defScope s__law_is_tree) := ⟨rfl, rfl, rfl, by decide +kernel, rfl, by decide +kernel, by decide +kernel⟩
abbrev s__law_stiff : Stmt := top 37
abbrev N__law_stiff : List Str := ["_law_web_here", "_law_marks_here", "_law_moving", "_law_here", "_law_spot", "_law_one", "_law_other"]
theorem sc__law_stiff : FnScope N__law_stiff ["_law_web_here", "_law_marks_here"] (defScope s__law_stiff) := ⟨rfl, rfl, rfl, by decide +kernel, rfl, by decide +kernel, by decide +kernel⟩
abbrev s__law_parts : Stmt := top 38
abbrev N__law_parts : List Str := ["_law_web_here", "_law_some", "_law_marks_here", "_law_left", "_law_spot", "_law_found", "_law_touched", "_law_part", "_law_turn", "_law_one", "_law_other", "_law_inner"]
theorem sc__law_parts : FnScope N__law_parts ["_law_web_here", "_law_some", "_law_marks_here"] (defScope s__law_parts) := ⟨rfl, rfl, rfl, by decide +kernel, rfl, by decide +kernel, by decide +kernel⟩
abbrev s__law_barred : Stmt := top 39
abbrev N__law_barred : List Str := ["_law_script", "_law_web_here", "_law_roads"]
theorem sc__law_barred : FnScope N__law_barred ["_law_script"] (defScope s__law_barred) := ⟨rfl, rfl, rfl, by decide +kernel, rfl, by decide +kernel, by decide +kernel⟩
abbrev s_law : Stmt := top 40
abbrev N_law : List Str := ["_law_script", "_law_web_here", "_law_marks_here", "_law_some", "_law_goal", "_law_never", "_law_parted", "_law_found", "_law_due", "_law_way"]
theorem sc_law : FnScope N_law ["_law_script"] (defScope s_law) := ⟨rfl, rfl, rfl, by decide +kernel, rfl, by decide +kernel, by decide +kernel⟩
section
variable {P : Program} {w : World} {K : PySem.W.Frag} {mg : Str → Option Value} {base : Heap} {ec : MS.XK → Addr} {CS : Addr}
theorem ok_look_web {f : Addr} {fd : FuncData} (F : L2.Fun K "look_web" "look_web" s_look_web f fd) (hm : mg "look_web" = some (.ref f)) (T : Txs mg) (Z : Tx K mg ec CS) : Fn P w K mg base ec "look_web" ["web"] 1 d_look_web :=
  have nd := sc_look_web.nd
  fnD F hm (F.binds fun _ _ _ _ _ _ us hl => match us, hl with | [_], _ => rfl) (okD F sc_look_web (by decide) fun cdv A outer s H B E hr tk pw =>
  xss_cons (xs_tg (xg_t rfl (xgs_cons 1 nd (xgs_cons 2 nd xgs_nil))) (xe_var 0))
  (xss_cons (xs_if (xt_not (xt_ch cm_le cm_le xe_int (xe_var 1) (xe_globI Z.c_MOST_SPOTS)))
  (xss_one (xs_raise (Z.k.e .web)))
  xss_nil)
  (xss_one (xs_for (xi_rng1 T (xe_len T (xb_var 2))) (xg_n 3 nd)
  (xss_one (xs_if (xt_w (xw_or (xt_cmp (cm_ne hr) (xe_len T (xb_of (xe_ix (xb_var 2) (xe_var 3)))) xe_int) (xw_or (xt_not (xt_ch3 cm_le (cm_lt hr) (cm_lt hr) xe_int (xe_ix (xb_of (xe_ix (xb_var 2) (xe_var 3))) xe_int) (xe_ix (xb_of (xe_ix (xb_var 2) (xe_var 3))) xe_int) (xe_var 1))) (xw_or1 (xt_w (xw_and (xt_cmp cm_gt (xe_var 3) xe_int) (xw_and1 (xt_not (xt_cmp (cm_lt hr) (xe_ix (xb_var 2) (xe_sub (xe_var 3) xe_int)) (xe_ix (xb_var 2) (xe_var 3)))))))))))
  (xss_one (xs_raise (Z.k.e .web)))
  xss_nil))))))
theorem ok_near {f : Addr} {fd : FuncData} (F : L2.Fun K "near" "near" s_near f fd) (hm : mg "near" = some (.ref f)) (T : Txs mg) (Z : Tx K mg ec CS) : Fn P w K mg base ec "near" ["web"] 1 d_near :=
  have nd := sc_near.nd
  fnD F hm (F.binds fun _ _ _ _ _ _ us hl => match us, hl with | [_], _ => rfl) (okD F sc_near (by decide) fun cdv A outer s H B E hr tk pw =>
  xss_near 0 1 2 3 (ps_setLc (own := [("spot", 4)]) (wi := tIb _ _ _) rfl nd rfl rfl (sw_true rfl rfl rfl (by decide +kernel)) (xib_rng1 T (xe_ix (xb_var 0) xe_int)) (blkOk_by (N := N_near) (sc := (defScope s_near)) (by decide +kernel)) (fun _ _ _ _ _ => (xg_n 4 nd).pg) (fun _ _ _ _ _ => xts_nil.run) (fun _ _ _ _ _ => xl_lst xa_nil)) (tok_n 4) (sub_of rfl) (fun _ _ => ⟨_, rfl⟩) (ps_for pw rfl (xi_seq (xe_ix (xb_var 0) xe_int)) (xg_t rfl (xgs_cons 2 nd (xgs_cons 3 nd xgs_nil))).pg (pss_cons (ps_napp 1 2 3) (pss_one (ps_napp 1 3 2)))) (tok_t (toks_cons 2 (toks_cons 3 toks_nil)))
  (xss_one (xs_ret (xe_lst (xl_comp (own := [("some", 5)]) rfl nd (xib_seq (xb_var 1)) (blkOk_by (N := N_near) (sc := (defScope s_near)) (by decide +kernel)) (fun _ _ _ _ _ => xg_n 5 nd) (fun _ _ _ _ _ => xts_nil) (fun _ _ _ _ _ => xe_lst (xl_sorted T hr (xb_var 5))))))) (by decide) (by decide) (by decide) (by decide) (by decide) (by decide))
theorem ok_is_marks {f : Addr} {fd : FuncData} (F : L2.Fun K "is_marks" "is_marks" s_is_marks f fd) (hm : mg "is_marks" = some (.ref f)) (T : Txs mg) (Z : Tx K mg ec CS) : Fn P w K mg base ec "is_marks" ["web", "marks"] 1 d_is_marks :=
  have nd := sc_is_marks.nd
  fnD F hm (F.binds fun _ _ _ _ _ _ us hl => match us, hl with | [_, _], _ => rfl) (okD F sc_is_marks (by decide) fun cdv A outer s H B E hr tk pw =>
  xss_cons (xs_if (xt_w (xw_or (xt_cmp (cm_ne hr) (xe_lst (xl_list T (xb_var 1))) (xe_lst (xl_ssi T (xe_var 1)))) (xw_or1 (xt_not (xt_tru (xb_of (xe_all T (xe_lst (xl_comp (own := [("spot", 4)]) rfl nd (xib_seq (xb_var 1)) (blkOk_by (N := N_is_marks) (sc := (defScope s_is_marks)) (by decide +kernel)) (fun _ _ _ _ _ => xg_n 4 nd) (fun _ _ _ _ _ => xts_nil) (fun _ _ _ _ _ => xe_ch cm_le (cm_lt hr) xe_int (xe_var 4) (xe_ix (xb_var 0) xe_int)))))))))))
  (xss_one (xs_ret xe_bl))
  xss_nil)
  (xss_one (xs_ret (xe_not (xe_any T (xe_lst (xl_comp (own := [("one", 2), ("other", 3)]) (gt := gTup K 2 (gCons (gName 2) (gCons (gName 3) gNil))) rfl nd (xib_seq (xb_of (xe_ix (xb_var 0) xe_int))) (blkOk_by (N := N_is_marks) (sc := (defScope s_is_marks)) (by decide +kernel)) (fun _ _ _ _ _ => xg_t rfl (xgs_cons 2 nd (xgs_cons 3 nd xgs_nil))) (fun _ _ _ _ _ => xts_nil) (fun _ _ _ _ _ => xe_and (xe_cin hr (xe_var 2) (xb_var 1) rfl) (xe_one (xe_cin hr (xe_var 3) (xb_var 1) rfl))))))))))
theorem ok_look_marks {f : Addr} {fd : FuncData} (F : L2.Fun K "look_marks" "look_marks" s_look_marks f fd) (hm : mg "look_marks" = some (.ref f)) (T : Txs mg) (Z : Tx K mg ec CS) (F_look_web : Fn P w K mg base ec "look_web" ["web"] 1 d_look_web) (F_is_marks : Fn P w K mg base ec "is_marks" ["web", "marks"] 1 d_is_marks) : Fn P w K mg base ec "look_marks" ["web", "marks"] 2 d_look_marks :=
  have nd := sc_look_marks.nd
  fnD F hm (F.binds fun _ _ _ _ _ _ us hl => match us, hl with | [_, _], _ => rfl) (okD F sc_look_marks (by decide) fun cdv A outer s H B E hr tk pw =>
  xss_cons (xs_expr (xe_call F_look_web (hr.mono (by decide)) (xs_cons (xb_var 0) xs_nil) (hn := (sa_len sa_len0))))
  (xss_one (xs_if (xt_not (xt_tru (xb_of (xe_call F_is_marks (hr.mono (by decide)) (xs_cons (xb_var 0) (xs_cons (xb_var 1) xs_nil)) (hn := (sa_len (sa_len sa_len0)))))))
  (xss_one (xs_raise (Z.k.e .marks)))
  xss_nil)))
theorem ok_parts {f : Addr} {fd : FuncData} (F : L2.Fun K "parts" "parts" s_parts f fd) (hm : mg "parts" = some (.ref f)) (T : Txs mg) (Z : Tx K mg ec CS) : Fn P w K mg base ec "parts" ["beside", "some"] 1 d_parts :=
  have nd := sc_parts.nd
  fnD F hm (F.binds fun _ _ _ _ _ _ us hl => match us, hl with | [_, _], _ => rfl) (okD F sc_parts (by decide) fun cdv A outer s H B E hr tk pw =>
  xss_cons (xs_own 2 nd (xl_lst xa_nil))
  (xss_cons (xs_for (xi_seq (xe_var 1)) (xg_n 3 nd)
  (xss_one (xs_if (xt_not (xt_tru (xb_of (xe_any T (xe_lst (xl_comp (own := [("part", 4)]) rfl nd (xib_seq (xb_var 2)) (blkOk_by (N := N_parts) (sc := (defScope s_parts)) (by decide +kernel)) (fun _ _ _ _ _ => xg_n 4 nd) (fun _ _ _ _ _ => xts_nil) (fun _ _ _ _ _ => xe_cin hr (xe_var 3) (xb_var 4) rfl)))))))
  (xss_cons (xs_own 4 nd (xl_lst (xa_cons (xe_var 3) xa_nil)))
  (xss_cons (xs_set 5 nd xe_int)
  (xss_cons (xs_while (xt_cmp (cm_lt hr) (xe_var 5) (xe_len T (xb_var 4)))
  (xss_cons (xs_ext 4 (xl_comp (own := [("other", 6)]) rfl nd (xib_seq (xb_of (xe_ix (xb_var 0) (xe_ix (xb_var 4) (xe_var 5))))) (blkOk_by (N := N_parts) (sc := (defScope s_parts)) (by decide +kernel)) (fun _ _ _ _ _ => xg_n 6 nd) (fun _ _ _ _ _ => xts_one (xt_w (xw_and (xt_cin hr (xe_var 6) (xb_var 1) rfl) (xw_and1 (xt_cnin hr (xe_var 6) (xb_var 4) rfl))))) (fun _ _ _ _ _ => xe_var 6)))
  (xss_one (xs_set 5 nd (xe_add (xe_var 5) xe_int)))))
  (xss_one (xs_app 2 (xe_lst (xl_sorted T hr (xb_var 4))))))))
  xss_nil)))
  (xss_frz 2 (xss_one (xs_ret (xe_var 2))))))
theorem ok_is_tree {f : Addr} {fd : FuncData} (F : L2.Fun K "is_tree" "is_tree" s_is_tree f fd) (hm : mg "is_tree" = some (.ref f)) (T : Txs mg) (Z : Tx K mg ec CS) (F_look_web : Fn P w K mg base ec "look_web" ["web"] 1 d_look_web) (F_parts : Fn P w K mg base ec "parts" ["beside", "some"] 1 d_parts) (F_near : Fn P w K mg base ec "near" ["web"] 1 d_near) : Fn P w K mg base ec "is_tree" ["web"] 2 d_is_tree :=
  have nd := sc_is_tree.nd
  fnD F hm (F.binds fun _ _ _ _ _ _ us hl => match us, hl with | [_], _ => rfl) (okD F sc_is_tree (by decide) fun cdv A outer s H B E hr tk pw =>
  xss_cons (xs_expr (xe_call F_look_web (hr.mono (by decide)) (xs_cons (xb_var 0) xs_nil) (hn := (sa_len sa_len0))))
  (xss_one (xs_ret (xe_and (xe_cmp (cm_eq hr) (xe_len T (xb_of (xe_ix (xb_var 0) xe_int))) (xe_sub (xe_ix (xb_var 0) xe_int) xe_int)) (xe_one (xe_cmp (cm_eq hr) (xe_len T (xb_of (xe_call F_parts (hr.mono (by decide)) (xs_cons (xb_of (xe_call F_near (hr.mono (by decide)) (xs_cons (xb_var 0) xs_nil) (hn := (sa_len sa_len0)))) (xs_cons (xb_of (xe_lst (xl_rng1 T (xe_ix (xb_var 0) xe_int)))) xs_nil)) (hn := (sa_len (sa_len sa_len0)))))) xe_int))))))
theorem ok_look_two {f : Addr} {fd : FuncData} (F : L2.Fun K "look_two" "look_two" s_look_two f fd) (hm : mg "look_two" = some (.ref f)) (T : Txs mg) (Z : Tx K mg ec CS) (F_look_marks : Fn P w K mg base ec "look_marks" ["web", "marks"] 2 d_look_marks) : Fn P w K mg base ec "look_two" ["web", "marks", "goal"] 3 d_look_two :=
  have nd := sc_look_two.nd
  fnD F hm (F.binds fun _ _ _ _ _ _ us hl => match us, hl with | [_, _, _], _ => rfl) (okD F sc_look_two (by decide) fun cdv A outer s H B E hr tk pw =>
  xss_cons (xs_expr (xe_call F_look_marks (hr.mono (by decide)) (xs_cons (xb_var 0) (xs_cons (xb_var 1) xs_nil)) (hn := (sa_len (sa_len sa_len0)))))
  (xss_cons (xs_expr (xe_call F_look_marks (hr.mono (by decide)) (xs_cons (xb_var 0) (xs_cons (xb_var 2) xs_nil)) (hn := (sa_len (sa_len sa_len0)))))
  (xss_one (xs_if (xt_cmp (cm_ne hr) (xe_len T (xb_var 1)) (xe_len T (xb_var 2)))
  (xss_one (xs_raise (Z.k.e .unlike)))
  xss_nil))))
theorem ok_look_tree {f : Addr} {fd : FuncData} (F : L2.Fun K "look_tree" "look_tree" s_look_tree f fd) (hm : mg "look_tree" = some (.ref f)) (T : Txs mg) (Z : Tx K mg ec CS) (F_look_marks : Fn P w K mg base ec "look_marks" ["web", "marks"] 2 d_look_marks) (F_is_tree : Fn P w K mg base ec "is_tree" ["web"] 2 d_is_tree) : Fn P w K mg base ec "look_tree" ["web", "marks"] 3 d_look_tree :=
  have nd := sc_look_tree.nd
  fnD F hm (F.binds fun _ _ _ _ _ _ us hl => match us, hl with | [_, _], _ => rfl) (okD F sc_look_tree (by decide) fun cdv A outer s H B E hr tk pw =>
  xss_cons (xs_expr (xe_call F_look_marks (hr.mono (by decide)) (xs_cons (xb_var 0) (xs_cons (xb_var 1) xs_nil)) (hn := (sa_len (sa_len sa_len0)))))
  (xss_one (xs_if (xt_not (xt_tru (xb_of (xe_call F_is_tree (hr.mono (by decide)) (xs_cons (xb_var 0) xs_nil) (hn := (sa_len sa_len0))))))
  (xss_one (xs_raise (Z.k.e .tree)))
  xss_nil)))
theorem rec_is_stiff {f : Addr} {fd : FuncData} (F : L2.Fun K "is_stiff" "is_stiff" s_is_stiff f fd) (hm : mg "is_stiff" = some (.ref f)) (T : Txs mg) (Z : Tx K mg ec CS) : ∀ fu : Nat, Fn P w K mg base ec "is_stiff" ["beside", "marks", "spot", "back"] fu (r_is_stiff fu)
  | 0 => fnD F hm (F.binds fun _ _ _ _ _ _ us hl => match us, hl with | [_, _, _, _], _ => rfl) (fn_no 0)
  | fu + 1 => by
    have nd := sc_is_stiff.nd
    have F_rec := rec_is_stiff F hm T Z fu
    exact fnD F hm (F.binds fun _ _ _ _ _ _ us hl => match us, hl with | [_, _, _, _], _ => rfl) (okD F sc_is_stiff (by decide) fun cdv A outer s H B E hr tk pw =>
  xss_cons (xs_for (xi_seq (xe_ix (xb_var 0) (xe_var 2))) (xg_n 4 nd)
  (xss_one (xs_if (xt_cmp (cm_ne hr) (xe_var 4) (xe_var 3))
  (xss_cons (xs_setlc 5 (own := [("one", 6)]) rfl nd rfl rfl (sw_true rfl rfl rfl (by decide +kernel)) (xib_seq (xb_of (xe_ix (xb_var 0) (xe_var 4)))) (blkOk_by (N := N_is_stiff) (sc := (defScope s_is_stiff)) (by decide +kernel)) (fun _ _ _ _ _ => xg_n 6 nd) (fun _ _ _ _ _ => xts_one (xt_w (xw_and (xt_cmp (cm_ne hr) (xe_var 6) (xe_var 2)) (xw_and1 (xt_cin hr (xe_var 6) (xb_var 1) rfl))))) (fun _ _ _ _ _ => xe_var 6))
  (xss_one (xs_if (xt_not (xt_tru (xb_of (xe_any T (xe_lst (xl_comp (own := [("one", 6)]) rfl nd (xib_seq (xb_var 5)) (blkOk_by (N := N_is_stiff) (sc := (defScope s_is_stiff)) (by decide +kernel)) (fun _ _ _ _ _ => xg_n 6 nd) (fun _ _ _ _ _ => xts_nil) (fun _ _ _ _ _ => xe_call F_rec hr (xs_cons (xb_var 0) (xs_cons (xb_var 1) (xs_cons (xb_var 6) (xs_cons (xb_var 4) xs_nil)))) (hn := (sa_len (sa_len (sa_len (sa_len sa_len0))))))))))))
  (xss_one (xs_ret xe_bl))
  xss_nil)))
  xss_nil)))
  (xss_one (xs_ret xe_bl)))
theorem ok_is_stiff {f : Addr} {fd : FuncData} (F : L2.Fun K "is_stiff" "is_stiff" s_is_stiff f fd) (hm : mg "is_stiff" = some (.ref f)) (T : Txs mg) (Z : Tx K mg ec CS) : Fn P w K mg base ec "is_stiff" ["beside", "marks", "spot", "back"] 10 d_is_stiff := rec_is_stiff F hm T Z 10
theorem ok_stiff {f : Addr} {fd : FuncData} (F : L2.Fun K "stiff" "stiff" s_stiff f fd) (hm : mg "stiff" = some (.ref f)) (T : Txs mg) (Z : Tx K mg ec CS) (F_look_tree : Fn P w K mg base ec "look_tree" ["web", "marks"] 3 d_look_tree) (F_near : Fn P w K mg base ec "near" ["web"] 1 d_near) (F_is_stiff : Fn P w K mg base ec "is_stiff" ["beside", "marks", "spot", "back"] 10 d_is_stiff) : Fn P w K mg base ec "stiff" ["web", "marks"] 11 d_stiff :=
  have nd := sc_stiff.nd
  fnD F hm (F.binds fun _ _ _ _ _ _ us hl => match us, hl with | [_, _], _ => rfl) (okD F sc_stiff (by decide) fun cdv A outer s H B E hr tk pw =>
  xss_cons (xs_expr (xe_call F_look_tree (hr.mono (by decide)) (xs_cons (xb_var 0) (xs_cons (xb_var 1) xs_nil)) (hn := (sa_len (sa_len sa_len0)))))
  (xss_cons (xs_set 2 nd (xe_call F_near (hr.mono (by decide)) (xs_cons (xb_var 0) xs_nil) (hn := (sa_len sa_len0))))
  (xss_one (xs_ret (xe_tuple T (xe_lst (xl_comp (own := [("spot", 3)]) rfl nd (xib_seq (xb_var 1)) (blkOk_by (N := N_stiff) (sc := (defScope s_stiff)) (by decide +kernel)) (fun _ _ _ _ _ => xg_n 3 nd) (fun _ _ _ _ _ => xts_one (xt_tru (xb_of (xe_call F_is_stiff (hr.mono (by decide)) (xs_cons (xb_var 2) (xs_cons (xb_var 1) (xs_cons (xb_var 3) (xs_cons (xb_of xe_non) xs_nil)))) (hn := (sa_len (sa_len (sa_len (sa_len sa_len0))))))))) (fun _ _ _ _ _ => xe_var 3))))))))
theorem ok_free_parts {f : Addr} {fd : FuncData} (F : L2.Fun K "free_parts" "free_parts" s_free_parts f fd) (hm : mg "free_parts" = some (.ref f)) (T : Txs mg) (Z : Tx K mg ec CS) (F_stiff : Fn P w K mg base ec "stiff" ["web", "marks"] 11 d_stiff) (F_near : Fn P w K mg base ec "near" ["web"] 1 d_near) (F_parts : Fn P w K mg base ec "parts" ["beside", "some"] 1 d_parts) : Fn P w K mg base ec "free_parts" ["web", "marks"] 12 d_free_parts :=
  have nd := sc_free_parts.nd
  fnD F hm (F.binds fun _ _ _ _ _ _ us hl => match us, hl with | [_, _], _ => rfl) (okD F sc_free_parts (by decide) fun cdv A outer s H B E hr tk pw =>
  xss_cons (xs_set 2 nd (xe_call F_stiff (hr.mono (by decide)) (xs_cons (xb_var 0) (xs_cons (xb_var 1) xs_nil)) (hn := (sa_len (sa_len sa_len0)))))
  (xss_cons (xs_set 3 nd (xe_call F_near (hr.mono (by decide)) (xs_cons (xb_var 0) xs_nil) (hn := (sa_len sa_len0))))
  (xss_cons (xs_own 4 nd (xl_lst xa_nil))
  (xss_cons (xs_for (xi_rng1 T (xe_ix (xb_var 0) xe_int)) (xg_n 5 nd)
  (xss_one (xs_if (xt_w (xw_and (xt_cnin hr (xe_var 5) (xb_var 2) rfl) (xw_and1 (xt_not (xt_tru (xb_of (xe_any T (xe_lst (xl_comp (own := [("other", 7)]) rfl nd (xib_seq (xb_of (xe_ix (xb_var 3) (xe_var 5)))) (blkOk_by (N := N_free_parts) (sc := (defScope s_free_parts)) (by decide +kernel)) (fun _ _ _ _ _ => xg_n 7 nd) (fun _ _ _ _ _ => xts_nil) (fun _ _ _ _ _ => xe_cin hr (xe_var 7) (xb_var 2) rfl))))))))))
  (xss_one (xs_app 4 (xe_var 5)))
  xss_nil)))
  (xss_frz 4 (xss_one (xs_ret (xe_lst (xl_comp (own := [("part", 6)]) rfl nd (xib_seq (xb_of (xe_call F_parts (hr.mono (by decide)) (xs_cons (xb_var 3) (xs_cons (xb_var 4) xs_nil)) (hn := (sa_len (sa_len sa_len0)))))) (blkOk_by (N := N_free_parts) (sc := (defScope s_free_parts)) (by decide +kernel)) (fun _ _ _ _ _ => xg_n 6 nd) (fun _ _ _ _ _ => xts_nil) (fun _ _ _ _ _ => xe_tup (xa_cons (xe_var 6) (xa_cons (xe_len T (xb_of (xe_lst (xl_comp (own := [("spot", 5)]) rfl nd (xib_seq (xb_var 6)) (blkOk_by (N := N_free_parts) (sc := (relS { kind := .function, names := [(".0", .local), ("part", .local), ("len", .globalImplicit), ("marks", .free)], isGenerator := false, isCoroutine := false } (defScope s_free_parts))) (by decide +kernel)) (fun _ _ _ _ _ => xg_n 5 nd) (fun _ _ _ _ _ => xts_one (xt_cin hr (xe_var 5) (xb_var 1) rfl)) (fun _ _ _ _ _ => xe_var 5))))) xa_nil))))))))))))
theorem ok_tree_told {f : Addr} {fd : FuncData} (F : L2.Fun K "tree_told" "tree_told" s_tree_told f fd) (hm : mg "tree_told" = some (.ref f)) (T : Txs mg) (Z : Tx K mg ec CS) (F_look_two : Fn P w K mg base ec "look_two" ["web", "marks", "goal"] 3 d_look_two) (F_is_tree : Fn P w K mg base ec "is_tree" ["web"] 2 d_is_tree) (F_stiff : Fn P w K mg base ec "stiff" ["web", "marks"] 11 d_stiff) (F_free_parts : Fn P w K mg base ec "free_parts" ["web", "marks"] 12 d_free_parts) : Fn P w K mg base ec "tree_told" ["web", "marks", "goal"] 13 d_tree_told :=
  have nd := sc_tree_told.nd
  fnD F hm (F.binds fun _ _ _ _ _ _ us hl => match us, hl with | [_, _, _], _ => rfl) (okD F sc_tree_told (by decide) fun cdv A outer s H B E hr tk pw =>
  xss_cons (xs_expr (xe_call F_look_two (hr.mono (by decide)) (xs_cons (xb_var 0) (xs_cons (xb_var 1) (xs_cons (xb_var 2) xs_nil))) (hn := (sa_len (sa_len (sa_len sa_len0))))))
  (xss_cons (xs_if (xt_not (xt_tru (xb_of (xe_call F_is_tree (hr.mono (by decide)) (xs_cons (xb_var 0) xs_nil) (hn := (sa_len sa_len0))))))
  (xss_one (xs_raise (Z.k.e .tree)))
  xss_nil)
  (xss_one (xs_ret (xe_and (xe_cmp (cm_eq hr) (xe_call F_stiff (hr.mono (by decide)) (xs_cons (xb_var 0) (xs_cons (xb_var 1) xs_nil)) (hn := (sa_len (sa_len sa_len0)))) (xe_call F_stiff (hr.mono (by decide)) (xs_cons (xb_var 0) (xs_cons (xb_var 2) xs_nil)) (hn := (sa_len (sa_len sa_len0))))) (xe_one (xe_cmp (cm_eq hr) (xe_call F_free_parts (hr.mono (by decide)) (xs_cons (xb_var 0) (xs_cons (xb_var 1) xs_nil)) (hn := (sa_len (sa_len sa_len0)))) (xe_call F_free_parts (hr.mono (by decide)) (xs_cons (xb_var 0) (xs_cons (xb_var 2) xs_nil)) (hn := (sa_len (sa_len sa_len0)))))))))))
theorem ok__law_cell {f : Addr} {fd : FuncData} (F : L2.Fun K "_law_cell" "_law_cell" s__law_cell f fd) (hm : mg "_law_cell" = some (.ref f)) (T : Txs mg) (Z : Tx K mg ec CS) : Fn P w K mg base ec "_law_cell" ["_law_script", "_law_k"] 1 d__law_cell :=
  have nd := sc__law_cell.nd
  fnD F hm (F.binds fun _ _ _ _ _ _ us hl => match us, hl with | [_, _], _ => rfl) (okD F sc__law_cell (by decide) fun cdv A outer s H B E hr tk pw =>
  xss_cons (xs_if (xt_tru (xb_var 0))
  (xss_one (xs_ret (xe_ix (xb_var 0) (xe_mod (xe_var 1) (xe_len T (xb_var 0))))))
  xss_nil)
  (xss_one (xs_ret xe_int)))
theorem ok__law_mix {f : Addr} {fd : FuncData} (F : L2.Fun K "_law_mix" "_law_mix" s__law_mix f fd) (hm : mg "_law_mix" = some (.ref f)) (T : Txs mg) (Z : Tx K mg ec CS) (F__law_cell : Fn P w K mg base ec "_law_cell" ["_law_script", "_law_k"] 1 d__law_cell) : Fn P w K mg base ec "_law_mix" ["_law_script", "_law_k"] 2 d__law_mix :=
  have nd := sc__law_mix.nd
  fnD F hm (F.binds fun _ _ _ _ _ _ us hl => match us, hl with | [_, _], _ => rfl) (okD F sc__law_mix (by decide) fun cdv A outer s H B E hr tk pw =>
  xss_cons (xs_set 2 nd (xe_mod (xe_add (xe_call F__law_cell (hr.mono (by decide)) (xs_cons (xb_var 0) (xs_cons (xb_var 1) xs_nil)) (hn := (sa_len (sa_len sa_len0)))) (xe_mul xe_int (xe_add (xe_var 1) xe_int))) xe_int))
  (xss_cons (xs_set 2 nd (xe_mod (xe_mul (xe_var 2) xe_int) xe_int))
  (xss_one (xs_ret (xe_mod (xe_add (xe_mul (xe_div (xe_var 2) xe_int) xe_int) (xe_var 2)) xe_int)))))
theorem ok__law_web {f : Addr} {fd : FuncData} (F : L2.Fun K "_law_web" "_law_web" s__law_web f fd) (hm : mg "_law_web" = some (.ref f)) (T : Txs mg) (Z : Tx K mg ec CS) (F__law_mix : Fn P w K mg base ec "_law_mix" ["_law_script", "_law_k"] 2 d__law_mix) : Fn P w K mg base ec "_law_web" ["_law_script", "_law_k", "_law_places"] 3 d__law_web :=
  have nd := sc__law_web.nd
  fnD F hm (F.binds fun _ _ _ _ _ _ us hl => match us, hl with | [_, _, _], _ => rfl) (okD F sc__law_web (by decide) fun cdv A outer s H B E hr tk pw =>
  xss_cons (xs_set 3 nd (xe_add xe_int (xe_mod (xe_call F__law_mix (hr.mono (by decide)) (xs_cons (xb_var 0) (xs_cons (xb_var 1) xs_nil)) (hn := (sa_len (sa_len sa_len0)))) (xe_var 2))))
  (xss_cons (xs_set 4 nd (xe_mod (xe_call F__law_mix (hr.mono (by decide)) (xs_cons (xb_var 0) (xs_cons (xb_of (xe_add (xe_var 1) xe_int)) xs_nil)) (hn := (sa_len (sa_len sa_len0)))) xe_int))
  (xss_cons (xs_own 5 nd (xl_lst xa_nil))
  (xss_cons (xs_for (xi_rng2 T xe_int (xe_var 3)) (xg_n 6 nd)
  (xss_one (xs_for (xi_rng1 T (xe_var 6)) (xg_n 7 nd)
  (xss_cons (xs_set 8 nd (xe_div (xe_call F__law_mix (hr.mono (by decide)) (xs_cons (xb_var 0) (xs_cons (xb_of (xe_add (xe_add (xe_add (xe_var 1) xe_int) (xe_mul xe_int (xe_var 7))) (xe_var 6))) xs_nil)) (hn := (sa_len (sa_len sa_len0)))) xe_int))
  (xss_cons (xs_set 9 nd (xe_and (xe_cmp (cm_lt hr) (xe_var 4) xe_int) (xe_one (xe_cmp (cm_eq hr) (xe_var 7) (xe_mod (xe_div (xe_call F__law_mix (hr.mono (by decide)) (xs_cons (xb_var 0) (xs_cons (xb_of (xe_add (xe_add (xe_var 1) xe_int) (xe_var 6))) xs_nil)) (hn := (sa_len (sa_len sa_len0)))) xe_int) (xe_var 6))))))
  (xss_one (xs_if (xt_w (xw_or (xt_tru (xb_var 9)) (xw_or (xt_w (xw_and (xt_cmp (cm_eq hr) (xe_var 4) xe_int) (xw_and1 (xt_cmp (cm_eq hr) (xe_add (xe_var 7) xe_int) (xe_var 6))))) (xw_or1 (xt_w (xw_and (xt_cmp cm_gt (xe_var 4) xe_int) (xw_and1 (xt_cmp (cm_lt hr) (xe_mod (xe_var 8) xe_int) (xe_sub (xe_var 4) xe_int)))))))))
  (xss_one (xs_app 5 (xe_tup (xa_cons (xe_var 7) (xa_cons (xe_var 6) xa_nil)))))
  xss_nil)))))))
  (xss_cons (xs_if (xt_w (xw_and (xt_cmp (cm_eq hr) (xe_var 4) xe_int) (xw_and (xt_cmp cm_gt (xe_var 3) xe_int) (xw_and1 (xt_cmp (cm_eq hr) (xe_mod (xe_call F__law_mix (hr.mono (by decide)) (xs_cons (xb_var 0) (xs_cons (xb_of (xe_add (xe_var 1) xe_int)) xs_nil)) (hn := (sa_len (sa_len sa_len0)))) xe_int) xe_int)))))
  (xss_one (xs_app 5 (xe_tup (xa_cons xe_int (xa_cons (xe_sub (xe_var 3) xe_int) xa_nil)))))
  xss_nil)
  (xss_frz 5 (xss_one (xs_ret (xe_tup (xa_cons (xe_var 3) (xa_cons (xe_lst (xl_ssp T hr (xe_var 5))) xa_nil)))))))))))
theorem ok__law_is_marks {f : Addr} {fd : FuncData} (F : L2.Fun K "_law_is_marks" "_law_is_marks" s__law_is_marks f fd) (hm : mg "_law_is_marks" = some (.ref f)) (T : Txs mg) (Z : Tx K mg ec CS) : Fn P w K mg base ec "_law_is_marks" ["_law_web_here", "_law_marks_here"] 1 d__law_is_marks :=
  have nd := sc__law_is_marks.nd
  fnD F hm (F.binds fun _ _ _ _ _ _ us hl => match us, hl with | [_, _], _ => rfl) (okD F sc__law_is_marks (by decide) fun cdv A outer s H B E hr tk pw =>
  xss_one (xs_ret (xe_not (xe_any T (xe_lst (xl_comp (own := [("_law_one", 2), ("_law_other", 3)]) (gt := gTup K 2 (gCons (gName 2) (gCons (gName 3) gNil))) rfl nd (xib_seq (xb_of (xe_ix (xb_var 0) xe_int))) (blkOk_by (N := N__law_is_marks) (sc := (defScope s__law_is_marks)) (by decide +kernel)) (fun _ _ _ _ _ => xg_t rfl (xgs_cons 2 nd (xgs_cons 3 nd xgs_nil))) (fun _ _ _ _ _ => xts_nil) (fun _ _ _ _ _ => xe_and (xe_cin hr (xe_var 2) (xb_var 1) rfl) (xe_one (xe_cin hr (xe_var 3) (xb_var 1) rfl)))))))))
theorem ok__law_marks {f : Addr} {fd : FuncData} (F : L2.Fun K "_law_marks" "_law_marks" s__law_marks f fd) (hm : mg "_law_marks" = some (.ref f)) (T : Txs mg) (Z : Tx K mg ec CS) (F__law_mix : Fn P w K mg base ec "_law_mix" ["_law_script", "_law_k"] 2 d__law_mix) (F__law_is_marks : Fn P w K mg base ec "_law_is_marks" ["_law_web_here", "_law_marks_here"] 1 d__law_is_marks) : Fn P w K mg base ec "_law_marks" ["_law_script", "_law_k", "_law_web_here", "_law_most"] 3 d__law_marks :=
  have nd := sc__law_marks.nd
  fnD F hm (F.binds fun _ _ _ _ _ _ us hl => match us, hl with | [_, _, _, _], _ => rfl) (okD F sc__law_marks (by decide) fun cdv A outer s H B E hr tk pw =>
  xss_cons (xs_set 4 nd (xe_tup xa_nil))
  (xss_cons (xs_for (xi_rng1 T (xe_mod (xe_call F__law_mix (hr.mono (by decide)) (xs_cons (xb_var 0) (xs_cons (xb_var 1) xs_nil)) (hn := (sa_len (sa_len sa_len0)))) (xe_add (xe_var 3) xe_int))) (xg_n 5 nd)
  (xss_cons (xs_setlc 6 (own := [("_law_spot", 7)]) rfl nd rfl rfl (sw_true rfl rfl rfl (by decide +kernel)) (xib_rng1 T (xe_ix (xb_var 2) xe_int)) (blkOk_by (N := N__law_marks) (sc := (defScope s__law_marks)) (by decide +kernel)) (fun _ _ _ _ _ => xg_n 7 nd) (fun _ _ _ _ _ => xts_one (xt_w (xw_and (xt_cnin hr (xe_var 7) (xb_var 4) rfl) (xw_and1 (xt_tru (xb_of (xe_call F__law_is_marks (hr.mono (by decide)) (xs_cons (xb_var 2) (xs_cons (xb_of (xe_add (xe_var 4) (xe_tup (xa_cons (xe_var 7) xa_nil)))) xs_nil)) (hn := (sa_len (sa_len sa_len0)))))))))) (fun _ _ _ _ _ => xe_var 7))
  (xss_one (xs_if (xt_cmp (cm_ne hr) (xe_var 6) (xe_lst (xl_lst xa_nil)))
  (xss_one (xs_set 4 nd (xe_tuple T (xe_lst (xl_sorted T hr (xb_of (xe_add (xe_var 4) (xe_tup (xa_cons (xe_ix (xb_var 6) (xe_mod (xe_div (xe_call F__law_mix (hr.mono (by decide)) (xs_cons (xb_var 0) (xs_cons (xb_of (xe_add (xe_add (xe_var 1) xe_int) (xe_var 5))) xs_nil)) (hn := (sa_len (sa_len sa_len0)))) xe_int) (xe_len T (xb_var 6)))) xa_nil)))))))))
  xss_nil))))
  (xss_one (xs_ret (xe_var 4)))))
theorem ok__law_moved {f : Addr} {fd : FuncData} (F : L2.Fun K "_law_moved" "_law_moved" s__law_moved f fd) (hm : mg "_law_moved" = some (.ref f)) (T : Txs mg) (Z : Tx K mg ec CS) : Fn P w K mg base ec "_law_moved" ["_law_marks_here", "_law_one", "_law_other"] 1 d__law_moved :=
  have nd := sc__law_moved.nd
  fnD F hm (F.binds fun _ _ _ _ _ _ us hl => match us, hl with | [_, _, _], _ => rfl) (okD F sc__law_moved (by decide) fun cdv A outer s H B E hr tk pw =>
  xss_one (xs_ret (xe_tuple T (xe_lst (xl_sorted T hr (xb_of (xe_add (xe_lst (xl_comp (own := [("_law_spot", 3)]) rfl nd (xib_seq (xb_var 0)) (blkOk_by (N := N__law_moved) (sc := (defScope s__law_moved)) (by decide +kernel)) (fun _ _ _ _ _ => xg_n 3 nd) (fun _ _ _ _ _ => xts_one (xt_cmp (cm_ne hr) (xe_var 3) (xe_var 1))) (fun _ _ _ _ _ => xe_var 3))) (xe_lst (xl_lst (xa_cons (xe_var 2) xa_nil))))))))))
theorem ok__law_slides {f : Addr} {fd : FuncData} (F : L2.Fun K "_law_slides" "_law_slides" s__law_slides f fd) (hm : mg "_law_slides" = some (.ref f)) (T : Txs mg) (Z : Tx K mg ec CS) (F__law_is_marks : Fn P w K mg base ec "_law_is_marks" ["_law_web_here", "_law_marks_here"] 1 d__law_is_marks) (F__law_moved : Fn P w K mg base ec "_law_moved" ["_law_marks_here", "_law_one", "_law_other"] 1 d__law_moved) : Fn P w K mg base ec "_law_slides" ["_law_web_here", "_law_marks_here"] 2 d__law_slides :=
  have nd := sc__law_slides.nd
  fnD F hm (F.binds fun _ _ _ _ _ _ us hl => match us, hl with | [_, _], _ => rfl) (okD F sc__law_slides (by decide) fun cdv A outer s H B E hr tk pw =>
  xss_cons (xs_own 2 nd (xl_lst xa_nil))
  (xss_cons (xs_for (xi_seq (xe_ix (xb_var 0) xe_int)) (xg_t rfl (xgs_cons 3 nd (xgs_cons 4 nd xgs_nil)))
  (xss_one (xs_for (xi_seq (xe_tup (xa_cons (xe_tup (xa_cons (xe_var 3) (xa_cons (xe_var 4) xa_nil))) (xa_cons (xe_tup (xa_cons (xe_var 4) (xa_cons (xe_var 3) xa_nil))) xa_nil)))) (xg_t rfl (xgs_cons 5 nd (xgs_cons 6 nd xgs_nil)))
  (xss_one (xs_if (xt_w (xw_and (xt_cin hr (xe_var 5) (xb_var 1) rfl) (xw_and (xt_cnin hr (xe_var 6) (xb_var 1) rfl) (xw_and1 (xt_tru (xb_of (xe_call F__law_is_marks (hr.mono (by decide)) (xs_cons (xb_var 0) (xs_cons (xb_of (xe_call F__law_moved (hr.mono (by decide)) (xs_cons (xb_var 1) (xs_cons (xb_var 5) (xs_cons (xb_var 6) xs_nil))) (hn := (sa_len (sa_len (sa_len sa_len0)))))) xs_nil)) (hn := (sa_len (sa_len sa_len0))))))))))
  (xss_one (xs_app 2 (xe_tup (xa_cons (xe_var 5) (xa_cons (xe_var 6) xa_nil)))))
  xss_nil)))))
  (xss_one (xs_ret (xe_lst (xl_sorted T hr (xb_var 2)))))))
theorem ok__law_room {f : Addr} {fd : FuncData} (F : L2.Fun K "_law_room" "_law_room" s__law_room f fd) (hm : mg "_law_room" = some (.ref f)) (T : Txs mg) (Z : Tx K mg ec CS) (F__law_slides : Fn P w K mg base ec "_law_slides" ["_law_web_here", "_law_marks_here"] 2 d__law_slides) (F__law_moved : Fn P w K mg base ec "_law_moved" ["_law_marks_here", "_law_one", "_law_other"] 1 d__law_moved) : Fn P w K mg base ec "_law_room" ["_law_web_here", "_law_marks_here"] 3 d__law_room :=
  have nd := sc__law_room.nd
  fnD F hm (F.binds fun _ _ _ _ _ _ us hl => match us, hl with | [_, _], _ => rfl) (okD F sc__law_room (by decide) fun cdv A outer s H B E hr tk pw =>
  xss_cons (xs_own 2 nd (xl_lst (xa_cons (xe_var 1) xa_nil)))
  (xss_cons (xs_set 3 nd xe_int)
  (xss_cons (xs_while (xt_cmp (cm_lt hr) (xe_var 3) (xe_len T (xb_var 2)))
  (xss_cons (xs_for (xi_seq (xe_call F__law_slides (hr.mono (by decide)) (xs_cons (xb_var 0) (xs_cons (xb_of (xe_ix (xb_var 2) (xe_var 3))) xs_nil)) (hn := (sa_len (sa_len sa_len0))))) (xg_t rfl (xgs_cons 4 nd (xgs_cons 5 nd xgs_nil)))
  (xss_cons (xs_set 6 nd (xe_call F__law_moved (hr.mono (by decide)) (xs_cons (xb_of (xe_ix (xb_var 2) (xe_var 3))) (xs_cons (xb_var 4) (xs_cons (xb_var 5) xs_nil))) (hn := (sa_len (sa_len (sa_len sa_len0))))))
  (xss_one (xs_if (xt_cnin hr (xe_var 6) (xb_var 2) rfl)
  (xss_one (xs_app 2 (xe_var 6)))
  xss_nil))))
  (xss_one (xs_set 3 nd (xe_add (xe_var 3) xe_int)))))
  (xss_one (xs_ret (xe_lst (xl_sorted T hr (xb_var 2))))))))
theorem ok__law_refusal {f : Addr} {fd : FuncData} (F : L2.Fun K "_law_refusal" "_law_refusal" s__law_refusal f fd) (hm : mg "_law_refusal" = some (.ref f)) (T : Txs mg) (Z : Tx K mg ec CS) : Fn P w K mg base ec "_law_refusal" ["_law_kept"] 1 d__law_refusal :=
  have nd := sc__law_refusal.nd
  fnD F hm (F.binds fun _ _ _ _ _ _ us hl => match us, hl with | [_], _ => rfl) (okD F sc__law_refusal (by decide) fun cdv A outer s H B E hr tk pw =>
  xss_cons (xs_if (xt_cisn (xb_var 0))
  (xss_one (xs_ret xe_str))
  xss_nil)
  (xss_cons (xs_set 1 nd (xe_lst (xl_lst (xa_cons (xe_isk T Z.k.kx .marks (Z.k.e .marks).g (xb_var 0)) (xa_cons (xe_isk T Z.k.kx .slide (Z.k.e .slide).g (xb_var 0)) (xa_cons (xe_isk T Z.k.kx .text (Z.k.e .text).g (xb_var 0)) xa_nil))))))
  (xss_cons (xs_set 1 nd (xe_add (xe_var 1) (xe_lst (xl_lst (xa_cons (xe_isk T Z.k.kx .web (Z.k.e .web).g (xb_var 0)) (xa_cons (xe_isk T Z.k.kx .tree (Z.k.e .tree).g (xb_var 0)) (xa_cons (xe_isk T Z.k.kx .unlike (Z.k.e .unlike).g (xb_var 0)) xa_nil)))))))
  (xss_cons (xs_if (xt_w (xw_or (xt_cmp (cm_ne hr) (xe_cnt hr (xe_var 1) xe_bl) xe_int) (xw_or1 (xt_not (xt_tru (xb_of (xe_isv T Z.k.kx T.val (xb_var 0))))))))
  (xss_one (xs_ret xe_str))
  xss_nil)
  (xss_one (xs_ret (xe_ix (xb_of (xe_lst (xl_lst (xa_cons xe_str (xa_cons xe_str (xa_cons xe_str (xa_cons xe_str (xa_cons xe_str (xa_cons xe_str xa_nil))))))))) (xe_idx hr (xe_var 1) xe_bl))))))))
theorem ok__law_got {f : Addr} {fd : FuncData} (F : L2.Fun K "_law_got" "_law_got" s__law_got f fd) (hm : mg "_law_got" = some (.ref f)) (T : Txs mg) (Z : Tx K mg ec CS) (F_stiff : Fn P w K mg base ec "stiff" ["web", "marks"] 11 d_stiff) (F_free_parts : Fn P w K mg base ec "free_parts" ["web", "marks"] 12 d_free_parts) (F_tree_told : Fn P w K mg base ec "tree_told" ["web", "marks", "goal"] 13 d_tree_told) (F__law_refusal : Fn P w K mg base ec "_law_refusal" ["_law_kept"] 1 d__law_refusal) : Fn P w K mg base ec "_law_got" ["_law_way", "_law_web_here", "_law_marks_here", "_law_goal"] 14 d__law_got :=
  have nd := sc__law_got.nd
  fnD F hm (F.binds fun _ _ _ _ _ _ us hl => match us, hl with | [_, _, _, _], _ => rfl) (okD F sc__law_got (by decide) fun cdv A outer s H B E hr tk pw =>
  xss_cons (xs_set 4 nd xe_non)
  (xss_cons (xs_set 5 nd xe_non)
  (xss_cons (xs_try 6 4 ksAll nd ⟨rfl, by decide, .inl Z.k.sl⟩ Z.k.exk (fun W pn xe tk pw => xss_one (xs_if (xt_cmp (cm_eq hr) (xe_var 0) xe_int)
  (xss_one (xs_set 5 nd (xe_call F_stiff (hr.mono (by decide)) (xs_cons (xb_var 1) (xs_cons (xb_var 2) xs_nil)) (hn := (sa_len (sa_len sa_len0))))))
  (xss_one (xs_set 5 nd (xe_if (xt_cmp (cm_eq hr) (xe_var 0) xe_int) (xe_call F_free_parts (hr.mono (by decide)) (xs_cons (xb_var 1) (xs_cons (xb_var 2) xs_nil)) (hn := (sa_len (sa_len sa_len0)))) (xe_call F_tree_told (hr.mono (by decide)) (xs_cons (xb_var 1) (xs_cons (xb_var 2) (xs_cons (xb_var 3) xs_nil))) (hn := (sa_len (sa_len (sa_len sa_len0)))))))))))
  (xss_one (xs_ret (xe_if (xt_cisn (xb_var 4)) (xe_var 5) (xe_call F__law_refusal (hr.mono (by decide)) (xs_cons (xb_var 4) xs_nil) (hn := (sa_len sa_len0)))))))))
theorem ok__law_tree {f : Addr} {fd : FuncData} (F : L2.Fun K "_law_tree" "_law_tree" s__law_tree f fd) (hm : mg "_law_tree" = some (.ref f)) (T : Txs mg) (Z : Tx K mg ec CS) (F__law_mix : Fn P w K mg base ec "_law_mix" ["_law_script", "_law_k"] 2 d__law_mix) : Fn P w K mg base ec "_law_tree" ["_law_script", "_law_k", "_law_places"] 3 d__law_tree :=
  have nd := sc__law_tree.nd
  fnD F hm (F.binds fun _ _ _ _ _ _ us hl => match us, hl with | [_, _, _], _ => rfl) (okD F sc__law_tree (by decide) fun cdv A outer s H B E hr tk pw =>
  xss_cons (xs_set 3 nd (xe_add xe_int (xe_mod (xe_call F__law_mix (hr.mono (by decide)) (xs_cons (xb_var 0) (xs_cons (xb_var 1) xs_nil)) (hn := (sa_len (sa_len sa_len0)))) (xe_var 2))))
  (xss_cons (xs_own 4 nd (xl_lst xa_nil))
  (xss_cons (xs_for (xi_rng2 T xe_int (xe_var 3)) (xg_n 5 nd)
  (xss_one (xs_app 4 (xe_tup (xa_cons (xe_mod (xe_div (xe_call F__law_mix (hr.mono (by decide)) (xs_cons (xb_var 0) (xs_cons (xb_of (xe_add (xe_var 1) (xe_var 5))) xs_nil)) (hn := (sa_len (sa_len sa_len0)))) xe_int) (xe_var 5)) (xa_cons (xe_var 5) xa_nil))))))
  (xss_one (xs_ret (xe_tup (xa_cons (xe_var 3) (xa_cons (xe_lst (xl_sorted T hr (xb_var 4))) xa_nil))))))))
theorem ok__law_is_tree {f : Addr} {fd : FuncData} (F : L2.Fun K "_law_is_tree" "_law_is_tree" s__law_is_tree f fd) (hm : mg "_law_is_tree" = some (.ref f)) (T : Txs mg) (Z : Tx K mg ec CS) : Fn P w K mg base ec "_law_is_tree" ["_law_web_here"] 1 d__law_is_tree :=
  have nd := sc__law_is_tree.nd
  fnD F hm (F.binds fun _ _ _ _ _ _ us hl => match us, hl with | [_], _ => rfl) (okD F sc__law_is_tree (by decide) fun cdv A outer s H B E hr tk pw =>
  xss_cons (xs_set 1 nd (xe_lst (xl_lst (xa_cons xe_int xa_nil))))
  (xss_cons (xs_for (xi_rng1 T (xe_ix (xb_var 0) xe_int)) (xg_n 2 nd)
  (xss_one (xs_for (xi_seq (xe_ix (xb_var 0) xe_int)) (xg_t rfl (xgs_cons 3 nd (xgs_cons 4 nd xgs_nil)))
  (xss_one (xs_if (xt_cmp (cm_ne hr) (xe_cin hr (xe_var 3) (xb_var 1) rfl) (xe_cin hr (xe_var 4) (xb_var 1) rfl))
  (xss_one (xs_set 1 nd (xe_add (xe_var 1) (xe_lst (xl_lst (xa_cons (xe_var 3) (xa_cons (xe_var 4) xa_nil)))))))
  xss_nil)))))
  (xss_one (xs_ret (xe_and (xe_cmp (cm_eq hr) (xe_lenset T (xe_var 1)) (xe_ix (xb_var 0) xe_int)) (xe_one (xe_cmp (cm_eq hr) (xe_len T (xb_of (xe_ix (xb_var 0) xe_int))) (xe_sub (xe_ix (xb_var 0) xe_int) xe_int))))))))
theorem ok__law_stiff {f : Addr} {fd : FuncData} (F : L2.Fun K "_law_stiff" "_law_stiff" s__law_stiff f fd) (hm : mg "_law_stiff" = some (.ref f)) (T : Txs mg) (Z : Tx K mg ec CS) (F__law_room : Fn P w K mg base ec "_law_room" ["_law_web_here", "_law_marks_here"] 3 d__law_room) (F__law_slides : Fn P w K mg base ec "_law_slides" ["_law_web_here", "_law_marks_here"] 2 d__law_slides) : Fn P w K mg base ec "_law_stiff" ["_law_web_here", "_law_marks_here"] 4 d__law_stiff :=
  have nd := sc__law_stiff.nd
  fnD F hm (F.binds fun _ _ _ _ _ _ us hl => match us, hl with | [_, _], _ => rfl) (okD F sc__law_stiff (by decide) fun cdv A outer s H B E hr tk pw =>
  xss_cons (xs_set 2 nd (xe_lst (xl_lst xa_nil)))
  (xss_cons (xs_for (xi_seq (xe_call F__law_room (hr.mono (by decide)) (xs_cons (xb_var 0) (xs_cons (xb_var 1) xs_nil)) (hn := (sa_len (sa_len sa_len0))))) (xg_n 3 nd)
  (xss_one (xs_set 2 nd (xe_add (xe_var 2) (xe_lst (xl_comp (own := [("_law_one", 5), ("_law_other", 6)]) (gt := gTup K 2 (gCons (gName 5) (gCons (gName 6) gNil))) rfl nd (xib_seq (xb_of (xe_call F__law_slides (hr.mono (by decide)) (xs_cons (xb_var 0) (xs_cons (xb_var 3) xs_nil)) (hn := (sa_len (sa_len sa_len0)))))) (blkOk_by (N := N__law_stiff) (sc := (defScope s__law_stiff)) (by decide +kernel)) (fun _ _ _ _ _ => xg_t rfl (xgs_cons 5 nd (xgs_cons 6 nd xgs_nil))) (fun _ _ _ _ _ => xts_nil) (fun _ _ _ _ _ => xe_var 5)))))))
  (xss_one (xs_ret (xe_tuple T (xe_lst (xl_comp (own := [("_law_spot", 4)]) rfl nd (xib_seq (xb_var 1)) (blkOk_by (N := N__law_stiff) (sc := (defScope s__law_stiff)) (by decide +kernel)) (fun _ _ _ _ _ => xg_n 4 nd) (fun _ _ _ _ _ => xts_one (xt_cnin hr (xe_var 4) (xb_var 2) rfl)) (fun _ _ _ _ _ => xe_var 4))))))))
theorem ok__law_parts {f : Addr} {fd : FuncData} (F : L2.Fun K "_law_parts" "_law_parts" s__law_parts f fd) (hm : mg "_law_parts" = some (.ref f)) (T : Txs mg) (Z : Tx K mg ec CS) : Fn P w K mg base ec "_law_parts" ["_law_web_here", "_law_some", "_law_marks_here"] 1 d__law_parts :=
  have nd := sc__law_parts.nd
  fnD F hm (F.binds fun _ _ _ _ _ _ us hl => match us, hl with | [_, _, _], _ => rfl) (okD F sc__law_parts (by decide) fun cdv A outer s H B E hr tk pw =>
  xss_cons (xs_own 3 nd (xl_lst xa_nil))
  (xss_cons (xs_for (xi_rng1 T (xe_ix (xb_var 0) xe_int)) (xg_n 4 nd)
  (xss_cons (xs_setlc 6 (own := [("_law_one", 9), ("_law_other", 10)]) (gt := gTup K 2 (gCons (gName 9) (gCons (gName 10) gNil))) rfl nd rfl rfl (sw_true rfl rfl rfl (by decide +kernel)) (xib_seq (xb_of (xe_ix (xb_var 0) xe_int))) (blkOk_by (N := N__law_parts) (sc := (defScope s__law_parts)) (by decide +kernel)) (fun _ _ _ _ _ => xg_t rfl (xgs_cons 9 nd (xgs_cons 10 nd xgs_nil))) (fun _ _ _ _ _ => xts_one (xt_cin hr (xe_var 4) (xb_of (xe_tup (xa_cons (xe_var 9) (xa_cons (xe_var 10) xa_nil)))) rfl)) (fun _ _ _ _ _ => xe_sub (xe_add (xe_var 9) (xe_var 10)) (xe_var 4)))
  (xss_one (xs_if (xt_w (xw_and (xt_cnin hr (xe_var 4) (xb_var 1) rfl) (xw_and1 (xt_not (xt_tru (xb_of (xe_any T (xe_lst (xl_comp (own := [("_law_one", 9)]) rfl nd (xib_seq (xb_var 6)) (blkOk_by (N := N__law_parts) (sc := (defScope s__law_parts)) (by decide +kernel)) (fun _ _ _ _ _ => xg_n 9 nd) (fun _ _ _ _ _ => xts_nil) (fun _ _ _ _ _ => xe_cin hr (xe_var 9) (xb_var 1) rfl))))))))))
  (xss_one (xs_app 3 (xe_var 4)))
  xss_nil))))
  (xss_cons (xs_own 5 nd (xl_lst xa_nil))
  (xss_cons (xs_while (xt_tru (xb_var 3))
  (xss_frz 3 (xss_cons (xs_set 7 nd (xe_sl (xe_var 3) xo_n (xo_e xe_int)))
  (xss_cons (xs_for (xi_rng1 T (xe_ix (xb_var 0) xe_int)) (xg_n 8 nd)
  (xss_one (xs_for (xi_seq (xe_ix (xb_var 0) xe_int)) (xg_t rfl (xgs_cons 9 nd (xgs_cons 10 nd xgs_nil)))
  (xss_cons (xs_set 11 nd (xe_and (xe_cin hr (xe_var 9) (xb_var 3) rfl) (xe_one (xe_cin hr (xe_var 10) (xb_var 3) rfl))))
  (xss_one (xs_if (xt_w (xw_and (xt_tru (xb_var 11)) (xw_and1 (xt_cmp (cm_ne hr) (xe_cin hr (xe_var 9) (xb_var 7) rfl) (xe_cin hr (xe_var 10) (xb_var 7) rfl)))))
  (xss_one (xs_set 7 nd (xe_add (xe_var 7) (xe_lst (xl_lst (xa_cons (xe_if (xt_cin hr (xe_var 9) (xb_var 7) rfl) (xe_var 10) (xe_var 9)) xa_nil))))))
  xss_nil))))))
  (xss_cons (xs_app 5 (xe_tup (xa_cons (xe_lst (xl_sorted T hr (xb_var 7))) (xa_cons (xe_len T (xb_of (xe_lst (xl_comp (own := [("_law_spot", 4)]) rfl nd (xib_seq (xb_var 7)) (blkOk_by (N := N__law_parts) (sc := (defScope s__law_parts)) (by decide +kernel)) (fun _ _ _ _ _ => xg_n 4 nd) (fun _ _ _ _ _ => xts_one (xt_cin hr (xe_var 4) (xb_var 2) rfl)) (fun _ _ _ _ _ => xe_var 4))))) xa_nil))))
  (xss_one (xs_ownlc 3 (own := [("_law_spot", 4)]) rfl nd rfl rfl (sw_true rfl rfl rfl (by decide +kernel)) (xib_seq (xb_var 3)) (blkOk_by (N := N__law_parts) (sc := (defScope s__law_parts)) (by decide +kernel)) (fun _ _ _ _ _ => xg_n 4 nd) (fun _ _ _ _ _ => xts_one (xt_cnin hr (xe_var 4) (xb_var 7) rfl)) (fun _ _ _ _ _ => xe_var 4))))))))
  (xss_frz 5 (xss_one (xs_ret (xe_var 5))))))))
theorem ok__law_barred {f : Addr} {fd : FuncData} (F : L2.Fun K "_law_barred" "_law_barred" s__law_barred f fd) (hm : mg "_law_barred" = some (.ref f)) (T : Txs mg) (Z : Tx K mg ec CS) (F__law_mix : Fn P w K mg base ec "_law_mix" ["_law_script", "_law_k"] 2 d__law_mix) : Fn P w K mg base ec "_law_barred" ["_law_script"] 3 d__law_barred :=
  have nd := sc__law_barred.nd
  fnD F hm (F.binds fun _ _ _ _ _ _ us hl => match us, hl with | [_], _ => rfl) (okD F sc__law_barred (by decide) fun cdv A outer s H B E hr tk pw =>
  xss_cons (xs_set 1 nd (xe_tup (xa_cons xe_int (xa_cons (xe_lst (xl_lst (xa_cons (xe_tup (xa_cons xe_int (xa_cons xe_int xa_nil))) (xa_cons (xe_tup (xa_cons xe_int (xa_cons xe_int xa_nil))) (xa_cons (xe_tup (xa_cons xe_int (xa_cons xe_int xa_nil))) (xa_cons (xe_tup (xa_cons xe_int (xa_cons xe_int xa_nil))) (xa_cons (xe_tup (xa_cons xe_int (xa_cons xe_int xa_nil))) (xa_cons (xe_tup (xa_cons xe_int (xa_cons xe_int xa_nil))) xa_nil)))))))) xa_nil))))
  (xss_cons (xs_set 2 nd (xe_lst (xl_lst (xa_cons xe_int (xa_cons xe_int (xa_cons xe_int (xa_cons xe_int xa_nil)))))))
  (xss_one (xs_ret (xe_tup (xa_cons (xe_var 1) (xa_cons (xe_tup (xa_cons xe_int (xa_cons xe_int (xa_cons (xe_ix (xb_var 2) (xe_mod (xe_call F__law_mix (hr.mono (by decide)) (xs_cons (xb_var 0) (xs_cons (xb_of xe_int) xs_nil)) (hn := (sa_len (sa_len sa_len0)))) xe_int)) xa_nil)))) (xa_cons (xe_tup (xa_cons xe_int (xa_cons xe_int (xa_cons (xe_ix (xb_var 2) (xe_mod (xe_call F__law_mix (hr.mono (by decide)) (xs_cons (xb_var 0) (xs_cons (xb_of xe_int) xs_nil)) (hn := (sa_len (sa_len sa_len0)))) xe_int)) xa_nil)))) xa_nil))))))))
theorem ok_law {f : Addr} {fd : FuncData} (F : L2.Fun K "law" "law" s_law f fd) (T : Txs mg) (Z : Tx K mg ec CS) (F__law_web : Fn P w K mg base ec "_law_web" ["_law_script", "_law_k", "_law_places"] 3 d__law_web) (F__law_mix : Fn P w K mg base ec "_law_mix" ["_law_script", "_law_k"] 2 d__law_mix) (F__law_tree : Fn P w K mg base ec "_law_tree" ["_law_script", "_law_k", "_law_places"] 3 d__law_tree) (F__law_marks : Fn P w K mg base ec "_law_marks" ["_law_script", "_law_k", "_law_web_here", "_law_most"] 3 d__law_marks) (F__law_room : Fn P w K mg base ec "_law_room" ["_law_web_here", "_law_marks_here"] 3 d__law_room) (F__law_barred : Fn P w K mg base ec "_law_barred" ["_law_script"] 3 d__law_barred) (F__law_is_tree : Fn P w K mg base ec "_law_is_tree" ["_law_web_here"] 1 d__law_is_tree) (F__law_got : Fn P w K mg base ec "_law_got" ["_law_way", "_law_web_here", "_law_marks_here", "_law_goal"] 14 d__law_got) (F__law_stiff : Fn P w K mg base ec "_law_stiff" ["_law_web_here", "_law_marks_here"] 4 d__law_stiff) (F__law_parts : Fn P w K mg base ec "_law_parts" ["_law_web_here", "_law_some", "_law_marks_here"] 1 d__law_parts) : FnOk P w K mg base (L2.CX P w) 15 f fd ["_law_script"] (spD K ec 1 d_law) :=
  have nd := sc_law.nd
  (okD F sc_law (by decide) fun cdv A outer s H B E hr tk pw =>
  xss_cons (xs_set 1 nd (xe_call F__law_web (hr.mono (by decide)) (xs_cons (xb_var 0) (xs_cons (xb_of xe_int) (xs_cons (xb_of xe_int) xs_nil))) (hn := (sa_len (sa_len (sa_len sa_len0))))))
  (xss_cons (xs_if (xt_cmp cm_gt (xe_mod (xe_call F__law_mix (hr.mono (by decide)) (xs_cons (xb_var 0) (xs_cons (xb_of xe_int) xs_nil)) (hn := (sa_len (sa_len sa_len0)))) xe_int) xe_int)
  (xss_one (xs_set 1 nd (xe_call F__law_tree (hr.mono (by decide)) (xs_cons (xb_var 0) (xs_cons (xb_of xe_int) (xs_cons (xb_of xe_int) xs_nil))) (hn := (sa_len (sa_len (sa_len sa_len0)))))))
  xss_nil)
  (xss_cons (xs_set 2 nd (xe_call F__law_marks (hr.mono (by decide)) (xs_cons (xb_var 0) (xs_cons (xb_of xe_int) (xs_cons (xb_var 1) (xs_cons (xb_of xe_int) xs_nil)))) (hn := (sa_len (sa_len (sa_len (sa_len sa_len0)))))))
  (xss_cons (xs_set 3 nd (xe_call F__law_room (hr.mono (by decide)) (xs_cons (xb_var 1) (xs_cons (xb_var 2) xs_nil)) (hn := (sa_len (sa_len sa_len0)))))
  (xss_cons (xs_set 4 nd (xe_ix (xb_var 3) (xe_mod (xe_call F__law_mix (hr.mono (by decide)) (xs_cons (xb_var 0) (xs_cons (xb_of xe_int) xs_nil)) (hn := (sa_len (sa_len sa_len0)))) (xe_len T (xb_var 3)))))
  (xss_cons (xs_if (xt_cmp (cm_eq hr) (xe_mod (xe_call F__law_mix (hr.mono (by decide)) (xs_cons (xb_var 0) (xs_cons (xb_of xe_int) xs_nil)) (hn := (sa_len (sa_len sa_len0)))) xe_int) xe_int)
  (xss_one (xs_set 4 nd (xe_call F__law_marks (hr.mono (by decide)) (xs_cons (xb_var 0) (xs_cons (xb_of xe_int) (xs_cons (xb_var 1) (xs_cons (xb_of xe_int) xs_nil)))) (hn := (sa_len (sa_len (sa_len (sa_len sa_len0))))))))
  xss_nil)
  (xss_cons (xs_if (xt_cmp (cm_eq hr) (xe_mod (xe_call F__law_mix (hr.mono (by decide)) (xs_cons (xb_var 0) (xs_cons (xb_of xe_int) xs_nil)) (hn := (sa_len (sa_len sa_len0)))) xe_int) xe_int)
  (xss_cons (xs_tg (xg_t rfl (xgs_cons 1 nd (xgs_cons 2 nd (xgs_cons 4 nd xgs_nil)))) (xe_call F__law_barred (hr.mono (by decide)) (xs_cons (xb_var 0) xs_nil) (hn := (sa_len sa_len0))))
  (xss_one (xs_set 3 nd (xe_call F__law_room (hr.mono (by decide)) (xs_cons (xb_var 1) (xs_cons (xb_var 2) xs_nil)) (hn := (sa_len (sa_len sa_len0)))))))
  xss_nil)
  (xss_cons (xs_if (xt_not (xt_tru (xb_of (xe_call F__law_is_tree (hr.mono (by decide)) (xs_cons (xb_var 1) xs_nil) (hn := (sa_len sa_len0))))))
  (xss_cons (xs_set 8 nd (xe_if (xt_cmp (cm_eq hr) (xe_len T (xb_var 4)) (xe_len T (xb_var 2))) xe_str xe_str))
  (xss_one (xs_ret (xe_cmp (cm_eq hr) (xe_lst (xl_comp (own := [("_law_way", 9)]) rfl nd (xib_rng1 T xe_int) (blkOk_by (N := N_law) (sc := (defScope s_law)) (by decide +kernel)) (fun _ _ _ _ _ => xg_n 9 nd) (fun _ _ _ _ _ => xts_nil) (fun _ _ _ _ _ => xe_call F__law_got (hr.mono (by decide)) (xs_cons (xb_var 9) (xs_cons (xb_var 1) (xs_cons (xb_var 2) (xs_cons (xb_var 4) xs_nil)))) (hn := (sa_len (sa_len (sa_len (sa_len sa_len0)))))))) (xe_lst (xl_lst (xa_cons xe_str (xa_cons xe_str (xa_cons (xe_var 8) xa_nil)))))))))
  xss_nil)
  (xss_cons (xs_set 5 nd (xe_call F__law_stiff (hr.mono (by decide)) (xs_cons (xb_var 1) (xs_cons (xb_var 2) xs_nil)) (hn := (sa_len (sa_len sa_len0)))))
  (xss_cons (xs_set 6 nd (xe_call F__law_parts (hr.mono (by decide)) (xs_cons (xb_var 1) (xs_cons (xb_var 5) (xs_cons (xb_var 2) xs_nil))) (hn := (sa_len (sa_len (sa_len sa_len0))))))
  (xss_cons (xs_if (xt_w (xw_or (xt_cmp (cm_ne hr) (xe_call F__law_got (hr.mono (by decide)) (xs_cons (xb_of xe_int) (xs_cons (xb_var 1) (xs_cons (xb_var 2) (xs_cons (xb_of (xe_tup xa_nil)) xs_nil)))) (hn := (sa_len (sa_len (sa_len (sa_len sa_len0)))))) (xe_var 5)) (xw_or1 (xt_cmp (cm_ne hr) (xe_call F__law_got (hr.mono (by decide)) (xs_cons (xb_of xe_int) (xs_cons (xb_var 1) (xs_cons (xb_var 2) (xs_cons (xb_of (xe_tup xa_nil)) xs_nil)))) (hn := (sa_len (sa_len (sa_len (sa_len sa_len0)))))) (xe_var 6)))))
  (xss_one (xs_ret xe_bl))
  xss_nil)
  (xss_cons (xs_set 7 nd (xe_call F__law_got (hr.mono (by decide)) (xs_cons (xb_of xe_int) (xs_cons (xb_var 1) (xs_cons (xb_var 2) (xs_cons (xb_var 4) xs_nil)))) (hn := (sa_len (sa_len (sa_len (sa_len sa_len0)))))))
  (xss_cons (xs_if (xt_cmp (cm_ne hr) (xe_len T (xb_var 4)) (xe_len T (xb_var 2)))
  (xss_one (xs_ret (xe_cmp (cm_eq hr) (xe_var 7) xe_str)))
  xss_nil)
  (xss_cons (xs_if (xt_w (xw_or (xt_not (xt_tru (xb_of (xe_isb T (xb_var 7) (hmb := T.bool))))) (xw_or1 (xt_cmp (cm_ne hr) (xe_var 7) (xe_cin hr (xe_var 4) (xb_var 3) rfl)))))
  (xss_one (xs_ret xe_bl))
  xss_nil)
  (xss_cons (xs_if (xt_cmp (cm_ne hr) (xe_lst (xl_comp (own := [("_law_way", 9)]) rfl nd (xib_rng1 T xe_int) (blkOk_by (N := N_law) (sc := (defScope s_law)) (by decide +kernel)) (fun _ _ _ _ _ => xg_n 9 nd) (fun _ _ _ _ _ => xts_nil) (fun _ _ _ _ _ => xe_call F__law_got (hr.mono (by decide)) (xs_cons (xb_var 9) (xs_cons (xb_var 1) (xs_cons (xb_of (xe_tup (xa_cons xe_int xa_nil))) (xs_cons (xb_of (xe_tup (xa_cons xe_int xa_nil))) xs_nil)))) (hn := (sa_len (sa_len (sa_len (sa_len sa_len0)))))))) (xe_mul (xe_lst (xl_lst (xa_cons xe_str xa_nil))) xe_int))
  (xss_one (xs_ret xe_bl))
  xss_nil)
  (xss_one (xs_ret (xe_cmp (cm_eq hr) (xe_lst (xl_comp (own := [("_law_way", 9)]) rfl nd (xib_rng1 T xe_int) (blkOk_by (N := N_law) (sc := (defScope s_law)) (by decide +kernel)) (fun _ _ _ _ _ => xg_n 9 nd) (fun _ _ _ _ _ => xts_nil) (fun _ _ _ _ _ => xe_call F__law_got (hr.mono (by decide)) (xs_cons (xb_var 9) (xs_cons (xb_of (xe_tup (xa_cons xe_int (xa_cons (xe_lst (xl_lst xa_nil)) xa_nil)))) (xs_cons (xb_of (xe_tup (xa_cons xe_int xa_nil))) (xs_cons (xb_of (xe_tup (xa_cons xe_int xa_nil))) xs_nil)))) (hn := (sa_len (sa_len (sa_len (sa_len sa_len0)))))))) (xe_mul (xe_lst (xl_lst (xa_cons xe_str xa_nil))) xe_int)))))))))))))))))))
end
theorem all_mk {P : Program} {w : World} {K : PySem.W.Frag} {h : Heap} {mg : Str → Option Value} {fa CS q1 q2 q3 q4 q5 q6 : Addr} (X : K.In h) (G : h.Ns mainGlobals mg) (hfa : mg "law" = some (.ref fa))
    (hlaw : ∀ ns : List Int, ns.length ≤ 63 → d_law [.sc ns] = .ok (.bool true))
    {f0 : Addr} {od0 an0 : Option Addr} {sl0 : Array (Option Value)} {oc0 kV0 dc0 pm0 cd0 ct0 : Value} (a0 : PySem.W.nsIn K mainGlobals "_law_cell" = some (some (.ref f0))) (l0 : K.lookup f0 = some ⟨oc0, od0, .func (PySem.W.fnOf "_law_cell" "_law_cell" (defArgs s__law_cell) (defBody s__law_cell) (defScope s__law_cell) .none kV0 dc0 pm0 an0 cd0 ct0), sl0⟩) (c0 : PySem.W.codeIn K cd0 "_law_cell" = true) (k0 : PySem.W.keepIn K (.ref f0) = true)
    {f1 : Addr} {od1 an1 : Option Addr} {sl1 : Array (Option Value)} {oc1 kV1 dc1 pm1 cd1 ct1 : Value} (a1 : PySem.W.nsIn K mainGlobals "_law_mix" = some (some (.ref f1))) (l1 : K.lookup f1 = some ⟨oc1, od1, .func (PySem.W.fnOf "_law_mix" "_law_mix" (defArgs s__law_mix) (defBody s__law_mix) (defScope s__law_mix) .none kV1 dc1 pm1 an1 cd1 ct1), sl1⟩) (c1 : PySem.W.codeIn K cd1 "_law_mix" = true) (k1 : PySem.W.keepIn K (.ref f1) = true)
    {f2 : Addr} {od2 an2 : Option Addr} {sl2 : Array (Option Value)} {oc2 kV2 dc2 pm2 cd2 ct2 : Value} (a2 : PySem.W.nsIn K mainGlobals "_law_web" = some (some (.ref f2))) (l2 : K.lookup f2 = some ⟨oc2, od2, .func (PySem.W.fnOf "_law_web" "_law_web" (defArgs s__law_web) (defBody s__law_web) (defScope s__law_web) .none kV2 dc2 pm2 an2 cd2 ct2), sl2⟩) (c2 : PySem.W.codeIn K cd2 "_law_web" = true) (k2 : PySem.W.keepIn K (.ref f2) = true)
    {f3 : Addr} {od3 an3 : Option Addr} {sl3 : Array (Option Value)} {oc3 kV3 dc3 pm3 cd3 ct3 : Value} (a3 : PySem.W.nsIn K mainGlobals "_law_tree" = some (some (.ref f3))) (l3 : K.lookup f3 = some ⟨oc3, od3, .func (PySem.W.fnOf "_law_tree" "_law_tree" (defArgs s__law_tree) (defBody s__law_tree) (defScope s__law_tree) .none kV3 dc3 pm3 an3 cd3 ct3), sl3⟩) (c3 : PySem.W.codeIn K cd3 "_law_tree" = true) (k3 : PySem.W.keepIn K (.ref f3) = true)
    {f4 : Addr} {od4 an4 : Option Addr} {sl4 : Array (Option Value)} {oc4 kV4 dc4 pm4 cd4 ct4 : Value} (a4 : PySem.W.nsIn K mainGlobals "_law_is_marks" = some (some (.ref f4))) (l4 : K.lookup f4 = some ⟨oc4, od4, .func (PySem.W.fnOf "_law_is_marks" "_law_is_marks" (defArgs s__law_is_marks) (defBody s__law_is_marks) (defScope s__law_is_marks) .none kV4 dc4 pm4 an4 cd4 ct4), sl4⟩) (c4 : PySem.W.codeIn K cd4 "_law_is_marks" = true) (k4 : PySem.W.keepIn K (.ref f4) = true)
    {f5 : Addr} {od5 an5 : Option Addr} {sl5 : Array (Option Value)} {oc5 kV5 dc5 pm5 cd5 ct5 : Value} (a5 : PySem.W.nsIn K mainGlobals "_law_marks" = some (some (.ref f5))) (l5 : K.lookup f5 = some ⟨oc5, od5, .func (PySem.W.fnOf "_law_marks" "_law_marks" (defArgs s__law_marks) (defBody s__law_marks) (defScope s__law_marks) .none kV5 dc5 pm5 an5 cd5 ct5), sl5⟩) (c5 : PySem.W.codeIn K cd5 "_law_marks" = true) (k5 : PySem.W.keepIn K (.ref f5) = true)
    {f6 : Addr} {od6 an6 : Option Addr} {sl6 : Array (Option Value)} {oc6 kV6 dc6 pm6 cd6 ct6 : Value} (a6 : PySem.W.nsIn K mainGlobals "_law_moved" = some (some (.ref f6))) (l6 : K.lookup f6 = some ⟨oc6, od6, .func (PySem.W.fnOf "_law_moved" "_law_moved" (defArgs s__law_moved) (defBody s__law_moved) (defScope s__law_moved) .none kV6 dc6 pm6 an6 cd6 ct6), sl6⟩) (c6 : PySem.W.codeIn K cd6 "_law_moved" = true) (k6 : PySem.W.keepIn K (.ref f6) = true)
    {f7 : Addr} {od7 an7 : Option Addr} {sl7 : Array (Option Value)} {oc7 kV7 dc7 pm7 cd7 ct7 : Value} (a7 : PySem.W.nsIn K mainGlobals "_law_slides" = some (some (.ref f7))) (l7 : K.lookup f7 = some ⟨oc7, od7, .func (PySem.W.fnOf "_law_slides" "_law_slides" (defArgs s__law_slides) (defBody s__law_slides) (defScope s__law_slides) .none kV7 dc7 pm7 an7 cd7 ct7), sl7⟩) (c7 : PySem.W.codeIn K cd7 "_law_slides" = true) (k7 : PySem.W.keepIn K (.ref f7) = true)
    {f8 : Addr} {od8 an8 : Option Addr} {sl8 : Array (Option Value)} {oc8 kV8 dc8 pm8 cd8 ct8 : Value} (a8 : PySem.W.nsIn K mainGlobals "_law_room" = some (some (.ref f8))) (l8 : K.lookup f8 = some ⟨oc8, od8, .func (PySem.W.fnOf "_law_room" "_law_room" (defArgs s__law_room) (defBody s__law_room) (defScope s__law_room) .none kV8 dc8 pm8 an8 cd8 ct8), sl8⟩) (c8 : PySem.W.codeIn K cd8 "_law_room" = true) (k8 : PySem.W.keepIn K (.ref f8) = true)
    {f9 : Addr} {od9 an9 : Option Addr} {sl9 : Array (Option Value)} {oc9 kV9 dc9 pm9 cd9 ct9 : Value} (a9 : PySem.W.nsIn K mainGlobals "_law_barred" = some (some (.ref f9))) (l9 : K.lookup f9 = some ⟨oc9, od9, .func (PySem.W.fnOf "_law_barred" "_law_barred" (defArgs s__law_barred) (defBody s__law_barred) (defScope s__law_barred) .none kV9 dc9 pm9 an9 cd9 ct9), sl9⟩) (c9 : PySem.W.codeIn K cd9 "_law_barred" = true) (k9 : PySem.W.keepIn K (.ref f9) = true)
    {f10 : Addr} {od10 an10 : Option Addr} {sl10 : Array (Option Value)} {oc10 kV10 dc10 pm10 cd10 ct10 : Value} (a10 : PySem.W.nsIn K mainGlobals "_law_is_tree" = some (some (.ref f10))) (l10 : K.lookup f10 = some ⟨oc10, od10, .func (PySem.W.fnOf "_law_is_tree" "_law_is_tree" (defArgs s__law_is_tree) (defBody s__law_is_tree) (defScope s__law_is_tree) .none kV10 dc10 pm10 an10 cd10 ct10), sl10⟩) (c10 : PySem.W.codeIn K cd10 "_law_is_tree" = true) (k10 : PySem.W.keepIn K (.ref f10) = true)
    {f11 : Addr} {od11 an11 : Option Addr} {sl11 : Array (Option Value)} {oc11 kV11 dc11 pm11 cd11 ct11 : Value} (a11 : PySem.W.nsIn K mainGlobals "look_web" = some (some (.ref f11))) (l11 : K.lookup f11 = some ⟨oc11, od11, .func (PySem.W.fnOf "look_web" "look_web" (defArgs s_look_web) (defBody s_look_web) (defScope s_look_web) .none kV11 dc11 pm11 an11 cd11 ct11), sl11⟩) (c11 : PySem.W.codeIn K cd11 "look_web" = true) (k11 : PySem.W.keepIn K (.ref f11) = true)
    {f12 : Addr} {od12 an12 : Option Addr} {sl12 : Array (Option Value)} {oc12 kV12 dc12 pm12 cd12 ct12 : Value} (a12 : PySem.W.nsIn K mainGlobals "is_marks" = some (some (.ref f12))) (l12 : K.lookup f12 = some ⟨oc12, od12, .func (PySem.W.fnOf "is_marks" "is_marks" (defArgs s_is_marks) (defBody s_is_marks) (defScope s_is_marks) .none kV12 dc12 pm12 an12 cd12 ct12), sl12⟩) (c12 : PySem.W.codeIn K cd12 "is_marks" = true) (k12 : PySem.W.keepIn K (.ref f12) = true)
    {f13 : Addr} {od13 an13 : Option Addr} {sl13 : Array (Option Value)} {oc13 kV13 dc13 pm13 cd13 ct13 : Value} (a13 : PySem.W.nsIn K mainGlobals "look_marks" = some (some (.ref f13))) (l13 : K.lookup f13 = some ⟨oc13, od13, .func (PySem.W.fnOf "look_marks" "look_marks" (defArgs s_look_marks) (defBody s_look_marks) (defScope s_look_marks) .none kV13 dc13 pm13 an13 cd13 ct13), sl13⟩) (c13 : PySem.W.codeIn K cd13 "look_marks" = true) (k13 : PySem.W.keepIn K (.ref f13) = true)
    {f14 : Addr} {od14 an14 : Option Addr} {sl14 : Array (Option Value)} {oc14 kV14 dc14 pm14 cd14 ct14 : Value} (a14 : PySem.W.nsIn K mainGlobals "parts" = some (some (.ref f14))) (l14 : K.lookup f14 = some ⟨oc14, od14, .func (PySem.W.fnOf "parts" "parts" (defArgs s_parts) (defBody s_parts) (defScope s_parts) .none kV14 dc14 pm14 an14 cd14 ct14), sl14⟩) (c14 : PySem.W.codeIn K cd14 "parts" = true) (k14 : PySem.W.keepIn K (.ref f14) = true)
    {f15 : Addr} {od15 an15 : Option Addr} {sl15 : Array (Option Value)} {oc15 kV15 dc15 pm15 cd15 ct15 : Value} (a15 : PySem.W.nsIn K mainGlobals "near" = some (some (.ref f15))) (l15 : K.lookup f15 = some ⟨oc15, od15, .func (PySem.W.fnOf "near" "near" (defArgs s_near) (defBody s_near) (defScope s_near) .none kV15 dc15 pm15 an15 cd15 ct15), sl15⟩) (c15 : PySem.W.codeIn K cd15 "near" = true) (k15 : PySem.W.keepIn K (.ref f15) = true)
    {f16 : Addr} {od16 an16 : Option Addr} {sl16 : Array (Option Value)} {oc16 kV16 dc16 pm16 cd16 ct16 : Value} (a16 : PySem.W.nsIn K mainGlobals "is_tree" = some (some (.ref f16))) (l16 : K.lookup f16 = some ⟨oc16, od16, .func (PySem.W.fnOf "is_tree" "is_tree" (defArgs s_is_tree) (defBody s_is_tree) (defScope s_is_tree) .none kV16 dc16 pm16 an16 cd16 ct16), sl16⟩) (c16 : PySem.W.codeIn K cd16 "is_tree" = true) (k16 : PySem.W.keepIn K (.ref f16) = true)
    {f17 : Addr} {od17 an17 : Option Addr} {sl17 : Array (Option Value)} {oc17 kV17 dc17 pm17 cd17 ct17 : Value} (a17 : PySem.W.nsIn K mainGlobals "look_tree" = some (some (.ref f17))) (l17 : K.lookup f17 = some ⟨oc17, od17, .func (PySem.W.fnOf "look_tree" "look_tree" (defArgs s_look_tree) (defBody s_look_tree) (defScope s_look_tree) .none kV17 dc17 pm17 an17 cd17 ct17), sl17⟩) (c17 : PySem.W.codeIn K cd17 "look_tree" = true) (k17 : PySem.W.keepIn K (.ref f17) = true)
    {f18 : Addr} {od18 an18 : Option Addr} {sl18 : Array (Option Value)} {oc18 kV18 dc18 pm18 cd18 ct18 : Value} (a18 : PySem.W.nsIn K mainGlobals "is_stiff" = some (some (.ref f18))) (l18 : K.lookup f18 = some ⟨oc18, od18, .func (PySem.W.fnOf "is_stiff" "is_stiff" (defArgs s_is_stiff) (defBody s_is_stiff) (defScope s_is_stiff) .none kV18 dc18 pm18 an18 cd18 ct18), sl18⟩) (c18 : PySem.W.codeIn K cd18 "is_stiff" = true) (k18 : PySem.W.keepIn K (.ref f18) = true)
    {f19 : Addr} {od19 an19 : Option Addr} {sl19 : Array (Option Value)} {oc19 kV19 dc19 pm19 cd19 ct19 : Value} (a19 : PySem.W.nsIn K mainGlobals "stiff" = some (some (.ref f19))) (l19 : K.lookup f19 = some ⟨oc19, od19, .func (PySem.W.fnOf "stiff" "stiff" (defArgs s_stiff) (defBody s_stiff) (defScope s_stiff) .none kV19 dc19 pm19 an19 cd19 ct19), sl19⟩) (c19 : PySem.W.codeIn K cd19 "stiff" = true) (k19 : PySem.W.keepIn K (.ref f19) = true)
    {f20 : Addr} {od20 an20 : Option Addr} {sl20 : Array (Option Value)} {oc20 kV20 dc20 pm20 cd20 ct20 : Value} (a20 : PySem.W.nsIn K mainGlobals "free_parts" = some (some (.ref f20))) (l20 : K.lookup f20 = some ⟨oc20, od20, .func (PySem.W.fnOf "free_parts" "free_parts" (defArgs s_free_parts) (defBody s_free_parts) (defScope s_free_parts) .none kV20 dc20 pm20 an20 cd20 ct20), sl20⟩) (c20 : PySem.W.codeIn K cd20 "free_parts" = true) (k20 : PySem.W.keepIn K (.ref f20) = true)
    {f21 : Addr} {od21 an21 : Option Addr} {sl21 : Array (Option Value)} {oc21 kV21 dc21 pm21 cd21 ct21 : Value} (a21 : PySem.W.nsIn K mainGlobals "look_two" = some (some (.ref f21))) (l21 : K.lookup f21 = some ⟨oc21, od21, .func (PySem.W.fnOf "look_two" "look_two" (defArgs s_look_two) (defBody s_look_two) (defScope s_look_two) .none kV21 dc21 pm21 an21 cd21 ct21), sl21⟩) (c21 : PySem.W.codeIn K cd21 "look_two" = true) (k21 : PySem.W.keepIn K (.ref f21) = true)
    {f22 : Addr} {od22 an22 : Option Addr} {sl22 : Array (Option Value)} {oc22 kV22 dc22 pm22 cd22 ct22 : Value} (a22 : PySem.W.nsIn K mainGlobals "tree_told" = some (some (.ref f22))) (l22 : K.lookup f22 = some ⟨oc22, od22, .func (PySem.W.fnOf "tree_told" "tree_told" (defArgs s_tree_told) (defBody s_tree_told) (defScope s_tree_told) .none kV22 dc22 pm22 an22 cd22 ct22), sl22⟩) (c22 : PySem.W.codeIn K cd22 "tree_told" = true) (k22 : PySem.W.keepIn K (.ref f22) = true)
    {f23 : Addr} {od23 an23 : Option Addr} {sl23 : Array (Option Value)} {oc23 kV23 dc23 pm23 cd23 ct23 : Value} (a23 : PySem.W.nsIn K mainGlobals "_law_refusal" = some (some (.ref f23))) (l23 : K.lookup f23 = some ⟨oc23, od23, .func (PySem.W.fnOf "_law_refusal" "_law_refusal" (defArgs s__law_refusal) (defBody s__law_refusal) (defScope s__law_refusal) .none kV23 dc23 pm23 an23 cd23 ct23), sl23⟩) (c23 : PySem.W.codeIn K cd23 "_law_refusal" = true) (k23 : PySem.W.keepIn K (.ref f23) = true)
    {f24 : Addr} {od24 an24 : Option Addr} {sl24 : Array (Option Value)} {oc24 kV24 dc24 pm24 cd24 ct24 : Value} (a24 : PySem.W.nsIn K mainGlobals "_law_got" = some (some (.ref f24))) (l24 : K.lookup f24 = some ⟨oc24, od24, .func (PySem.W.fnOf "_law_got" "_law_got" (defArgs s__law_got) (defBody s__law_got) (defScope s__law_got) .none kV24 dc24 pm24 an24 cd24 ct24), sl24⟩) (c24 : PySem.W.codeIn K cd24 "_law_got" = true) (k24 : PySem.W.keepIn K (.ref f24) = true)
    {f25 : Addr} {od25 an25 : Option Addr} {sl25 : Array (Option Value)} {oc25 kV25 dc25 pm25 cd25 ct25 : Value} (a25 : PySem.W.nsIn K mainGlobals "_law_stiff" = some (some (.ref f25))) (l25 : K.lookup f25 = some ⟨oc25, od25, .func (PySem.W.fnOf "_law_stiff" "_law_stiff" (defArgs s__law_stiff) (defBody s__law_stiff) (defScope s__law_stiff) .none kV25 dc25 pm25 an25 cd25 ct25), sl25⟩) (c25 : PySem.W.codeIn K cd25 "_law_stiff" = true) (k25 : PySem.W.keepIn K (.ref f25) = true)
    {f26 : Addr} {od26 an26 : Option Addr} {sl26 : Array (Option Value)} {oc26 kV26 dc26 pm26 cd26 ct26 : Value} (a26 : PySem.W.nsIn K mainGlobals "_law_parts" = some (some (.ref f26))) (l26 : K.lookup f26 = some ⟨oc26, od26, .func (PySem.W.fnOf "_law_parts" "_law_parts" (defArgs s__law_parts) (defBody s__law_parts) (defScope s__law_parts) .none kV26 dc26 pm26 an26 cd26 ct26), sl26⟩) (c26 : PySem.W.codeIn K cd26 "_law_parts" = true) (k26 : PySem.W.keepIn K (.ref f26) = true)
    {f27 : Addr} {od27 an27 : Option Addr} {sl27 : Array (Option Value)} {oc27 kV27 dc27 pm27 cd27 ct27 : Value} (a27 : PySem.W.nsIn K mainGlobals "law" = some (some (.ref f27))) (l27 : K.lookup f27 = some ⟨oc27, od27, .func (PySem.W.fnOf "law" "law" (defArgs s_law) (defBody s_law) (defScope s_law) .none kV27 dc27 pm27 an27 cd27 ct27), sl27⟩) (c27 : PySem.W.codeIn K cd27 "law" = true) (k27 : PySem.W.keepIn K (.ref f27) = true)
    (kS : Ks K CS) (kC1 : Kc K "BadWeb" q1 CS) (kC2 : Kc K "BadMarks" q2 CS) (kC3 : Kc K "BadSlide" q3 CS) (kC4 : Kc K "Unlike" q4 CS) (kC5 : Kc K "NoTree" q5 CS) (kC6 : Kc K "BadText" q6 CS) (kO : ∀ k k', PySem.W.subIn K (.ref (ecF q1 q2 q3 q4 q5 q6 k')) (.ref (ecF q1 q2 q3 q4 q5 q6 k)) = some (decide (k' = k)))
    {t0 : Nat} (gl0 : PySem.W.nsIn K mainGlobals "MOST_SPOTS" = some (some (.int 12 t0)))
    (z0 : PySem.W.nsIn K mainGlobals "len" = some none)
    (z1 : PySem.W.nsIn K mainGlobals "range" = some none)
    (z2 : PySem.W.nsIn K mainGlobals "sorted" = some none)
    (z3 : PySem.W.nsIn K mainGlobals "set" = some none)
    (z4 : PySem.W.nsIn K mainGlobals "list" = some none)
    (z5 : PySem.W.nsIn K mainGlobals "tuple" = some none)
    (z6 : PySem.W.nsIn K mainGlobals "any" = some none)
    (z7 : PySem.W.nsIn K mainGlobals "all" = some none)
    (z8 : PySem.W.nsIn K mainGlobals "isinstance" = some none)
    (z9 : PySem.W.nsIn K mainGlobals "str" = some none)
    (z10 : PySem.W.nsIn K mainGlobals "int" = some none)
    (z11 : PySem.W.nsIn K mainGlobals "min" = some none)
    (z12 : PySem.W.nsIn K mainGlobals "max" = some none)
    (z13 : PySem.W.nsIn K mainGlobals "bool" = some none)
    (z14 : PySem.W.nsIn K mainGlobals "ValueError" = some none)
    : ∃ fd : FuncData, (∀ (s : Shared) (v : Value), BindsTo s fd ⟨[v], []⟩ [("_law_script", v)]) ∧ ∀ base : Heap, K.In base → base.Ns mainGlobals mg → FnOk P w K mg base (L2.CX P w) 15 fa fd ["_law_script"] (spLaw K) := by
  have e := hfa.symm.trans (PySem.W.mg_of X G a27)
  cases e
  have T : Txs mg := ⟨PySem.W.mg_none_of X G z0, PySem.W.mg_none_of X G z1, PySem.W.mg_none_of X G z2, PySem.W.mg_none_of X G z3, PySem.W.mg_none_of X G z4, PySem.W.mg_none_of X G z5, PySem.W.mg_none_of X G z6, PySem.W.mg_none_of X G z7, PySem.W.mg_none_of X G z8, PySem.W.mg_none_of X G z9, PySem.W.mg_none_of X G z10, PySem.W.mg_none_of X G z11, PySem.W.mg_none_of X G z12, PySem.W.mg_none_of X G z13, PySem.W.mg_none_of X G z14⟩
  have Z : Tx K mg (ecF q1 q2 q3 q4 q5 q6) CS := ⟨kall_mk X G kS (fun k => match k with | .web => kC1 | .marks => kC2 | .slide => kC3 | .unlike => kC4 | .tree => kC5 | .text => kC6) kO, ⟨_, PySem.W.mg_of X G gl0⟩⟩
  refine ⟨PySem.W.fnOf "law" "law" (defArgs s_law) (defBody s_law) (defScope s_law) .none kV27 dc27 pm27 an27 cd27 ct27, fun s v => .of_eq rfl, fun base _ _ => ?_⟩
  have F__law_cell := ok__law_cell (P := P) (w := w) (base := base) (fun_mk (st := s__law_cell) l0 c0 k0) (PySem.W.mg_of X G a0) T Z
  have F__law_mix := ok__law_mix (P := P) (w := w) (base := base) (fun_mk (st := s__law_mix) l1 c1 k1) (PySem.W.mg_of X G a1) T Z F__law_cell
  have F__law_web := ok__law_web (P := P) (w := w) (base := base) (fun_mk (st := s__law_web) l2 c2 k2) (PySem.W.mg_of X G a2) T Z F__law_mix
  have F__law_tree := ok__law_tree (P := P) (w := w) (base := base) (fun_mk (st := s__law_tree) l3 c3 k3) (PySem.W.mg_of X G a3) T Z F__law_mix
  have F__law_is_marks := ok__law_is_marks (P := P) (w := w) (base := base) (fun_mk (st := s__law_is_marks) l4 c4 k4) (PySem.W.mg_of X G a4) T Z
  have F__law_marks := ok__law_marks (P := P) (w := w) (base := base) (fun_mk (st := s__law_marks) l5 c5 k5) (PySem.W.mg_of X G a5) T Z F__law_mix F__law_is_marks
  have F__law_moved := ok__law_moved (P := P) (w := w) (base := base) (fun_mk (st := s__law_moved) l6 c6 k6) (PySem.W.mg_of X G a6) T Z
  have F__law_slides := ok__law_slides (P := P) (w := w) (base := base) (fun_mk (st := s__law_slides) l7 c7 k7) (PySem.W.mg_of X G a7) T Z F__law_is_marks F__law_moved
  have F__law_room := ok__law_room (P := P) (w := w) (base := base) (fun_mk (st := s__law_room) l8 c8 k8) (PySem.W.mg_of X G a8) T Z F__law_slides F__law_moved
  have F__law_barred := ok__law_barred (P := P) (w := w) (base := base) (fun_mk (st := s__law_barred) l9 c9 k9) (PySem.W.mg_of X G a9) T Z F__law_mix
  have F__law_is_tree := ok__law_is_tree (P := P) (w := w) (base := base) (fun_mk (st := s__law_is_tree) l10 c10 k10) (PySem.W.mg_of X G a10) T Z
  have F_look_web := ok_look_web (P := P) (w := w) (base := base) (fun_mk (st := s_look_web) l11 c11 k11) (PySem.W.mg_of X G a11) T Z
  have F_is_marks := ok_is_marks (P := P) (w := w) (base := base) (fun_mk (st := s_is_marks) l12 c12 k12) (PySem.W.mg_of X G a12) T Z
  have F_look_marks := ok_look_marks (P := P) (w := w) (base := base) (fun_mk (st := s_look_marks) l13 c13 k13) (PySem.W.mg_of X G a13) T Z F_look_web F_is_marks
  have F_parts := ok_parts (P := P) (w := w) (base := base) (fun_mk (st := s_parts) l14 c14 k14) (PySem.W.mg_of X G a14) T Z
  have F_near := ok_near (P := P) (w := w) (base := base) (fun_mk (st := s_near) l15 c15 k15) (PySem.W.mg_of X G a15) T Z
  have F_is_tree := ok_is_tree (P := P) (w := w) (base := base) (fun_mk (st := s_is_tree) l16 c16 k16) (PySem.W.mg_of X G a16) T Z F_look_web F_parts F_near
  have F_look_tree := ok_look_tree (P := P) (w := w) (base := base) (fun_mk (st := s_look_tree) l17 c17 k17) (PySem.W.mg_of X G a17) T Z F_look_marks F_is_tree
  have F_is_stiff := ok_is_stiff (P := P) (w := w) (base := base) (fun_mk (st := s_is_stiff) l18 c18 k18) (PySem.W.mg_of X G a18) T Z
  have F_stiff := ok_stiff (P := P) (w := w) (base := base) (fun_mk (st := s_stiff) l19 c19 k19) (PySem.W.mg_of X G a19) T Z F_look_tree F_near F_is_stiff
  have F_free_parts := ok_free_parts (P := P) (w := w) (base := base) (fun_mk (st := s_free_parts) l20 c20 k20) (PySem.W.mg_of X G a20) T Z F_stiff F_near F_parts
  have F_look_two := ok_look_two (P := P) (w := w) (base := base) (fun_mk (st := s_look_two) l21 c21 k21) (PySem.W.mg_of X G a21) T Z F_look_marks
  have F_tree_told := ok_tree_told (P := P) (w := w) (base := base) (fun_mk (st := s_tree_told) l22 c22 k22) (PySem.W.mg_of X G a22) T Z F_look_two F_is_tree F_stiff F_free_parts
  have F__law_refusal := ok__law_refusal (P := P) (w := w) (base := base) (fun_mk (st := s__law_refusal) l23 c23 k23) (PySem.W.mg_of X G a23) T Z
  have F__law_got := ok__law_got (P := P) (w := w) (base := base) (fun_mk (st := s__law_got) l24 c24 k24) (PySem.W.mg_of X G a24) T Z F_stiff F_free_parts F_tree_told F__law_refusal
  have F__law_stiff := ok__law_stiff (P := P) (w := w) (base := base) (fun_mk (st := s__law_stiff) l25 c25 k25) (PySem.W.mg_of X G a25) T Z F__law_room F__law_slides
  have F__law_parts := ok__law_parts (P := P) (w := w) (base := base) (fun_mk (st := s__law_parts) l26 c26 k26) (PySem.W.mg_of X G a26) T Z
  have F_law := ok_law (P := P) (w := w) (base := base) (fun_mk (st := s_law) l27 c27 k27) T Z F__law_web F__law_mix F__law_tree F__law_marks F__law_room F__law_barred F__law_is_tree F__law_got F__law_stiff F__law_parts
  exact F_law.imp fun vs H Q E h => spLaw_D hlaw h
theorem walk {l : PySem.W.OpenLaw} {q : Program} {loose : List Str} {XP : (Str → Option Value) → Heap → Prop} {YP : World → Heap → Prop} {d : DefRec} {K : Params → PySem.W.Frag} (hn : l.most = some 63) (hdf : d.params.defaults = [])
    (hY : ∀ (w : World) (h : Heap), YP w h → (K w.params).In h)
    (F : ∀ (w : World) (mg : Str → Option Value) (fa : Addr) (h : Heap), (K w.params).In h → h.Ns mainGlobals mg → mg d.name = some (.ref fa) →
      ∃ fd : FuncData, (∀ (s : Shared) (u : Value), BindsTo s fd ⟨[u], []⟩ [("_law_script", u)]) ∧ ∀ base : Heap, (K w.params).In base → base.Ns mainGlobals mg → FnOk l.prog w (K w.params) mg base (L2.CX l.prog w) 15 fa fd ["_law_script"] (spLaw (K w.params))) :
    PySem.W.WalkO q loose XP YP l.row.toRowW d [] (fun f vs => PySem.call f vs) :=
  L2.walk_of (n := 63) (k := 15) (x := "_law_script") (CX := fun w => L2.CX l.prog w) (sp := fun w => spLaw (K w.params)) hn (by decide) hdf ⟨rfl, by decide, by decide⟩ hY F (fun _ _ a ns hl _ hS => ⟨a, ns, rfl, hS, hl, fun _ => rfl⟩) fun _ _ _ _ _ ⟨_, _, _, _, _, _, _, _, _, _, _, _, z⟩ => z
end MS

/-! MsMath0: the dens as rules; data of ints. -/
namespace MS
open PySem

/-! ### equations of the dens -/
section
variable {ρ : Env} {a b c e f : DE} {fb : DB} {l : DL} {ar : DA} {t u : DT}
@[simp] theorem dVar_e (i : Nat) : dVar i ρ = (match ρ[i]? with
  | some (.fz d) => .ok d
  | _ => .no) := rfl
@[simp] theorem bVar_e (i : Nat) : bVar i ρ = (match ρ[i]? with
  | some .nil => .no
  | some s => .ok s
  | none => .no) := rfl
@[simp] theorem bOf_e : bOf e ρ = (e ρ).bind fun d => .ok (.fz d) := rfl
@[simp] theorem dC_e (d : PyData) : dC d ρ = .ok d := rfl
@[simp] theorem dBin_e (op : PyData → PyData → Rs PyData) : dBin op a b ρ = (a ρ).bind fun x => (b ρ).bind fun y => op x y := rfl
@[simp] theorem tCmp_e (op : PyData → PyData → Rs Bool) : tCmp op a b ρ = (a ρ).bind fun x => (b ρ).bind fun y => op x y := rfl
@[simp] theorem tCh_e (c1 c2 : PyData → PyData → Rs Bool) : tCh c1 c2 a b c ρ = (a ρ).bind fun x => (b ρ).bind fun y => (c1 x y).bind fun k => if k = true then (c ρ).bind fun z => c2 y z else .ok false := rfl
@[simp] theorem tCh3_e (c1 c2 c3 : PyData → PyData → Rs Bool) : tCh3 c1 c2 c3 a b c e ρ = (a ρ).bind fun x => (b ρ).bind fun y => (c1 x y).bind fun k => if k = true then (c ρ).bind fun z => (c2 y z).bind fun k => if k = true then (e ρ).bind fun u => c3 z u else .ok false else .ok false := rfl
@[simp] theorem tIn_e : tIn a fb ρ = (a ρ).bind fun x => (fb ρ).bind fun s => cIn x s := rfl
@[simp] theorem tNin_e : tNin a fb ρ = (a ρ).bind fun x => (fb ρ).bind fun s => (cIn x s).bind fun k => .ok (!k) := rfl
@[simp] theorem tIsN_e : tIsN fb ρ = (fb ρ).bind isN := rfl
@[simp] theorem tNotN_e : tNotN fb ρ = (fb ρ).bind fun s => (isN s).bind fun b => .ok (!b) := rfl
@[simp] theorem dT_e : dT t ρ = (t ρ).bind fun b => .ok (.bool b) := rfl
@[simp] theorem tAnd_e : tAnd t u ρ = (t ρ).bind fun b => if b = true then u ρ else .ok false := rfl
@[simp] theorem tOr_e : tOr t u ρ = (t ρ).bind fun b => if b = true then .ok true else u ρ := rfl
@[simp] theorem tNot_e : tNot t ρ = (t ρ).bind fun b => .ok (!b) := rfl
@[simp] theorem dAnd_e : dAnd a b ρ = (a ρ).bind fun x => (asB x).bind fun k => if k = true then b ρ else .ok (.bool false) := rfl
@[simp] theorem dOr_e : dOr a b ρ = (a ρ).bind fun x => (asB x).bind fun k => if k = true then .ok (.bool true) else b ρ := rfl
@[simp] theorem dNot_e : dNot a ρ = (a ρ).bind fun x => (asB x).bind fun k => .ok (.bool (!k)) := rfl
@[simp] theorem tTru_e : tTru fb ρ = (fb ρ).bind truS := rfl
@[simp] theorem dIf_e : dIf t a b ρ = (t ρ).bind fun k => if k = true then a ρ else b ρ := rfl
@[simp] theorem lNil_e : lNil ρ = .ok [] := rfl
@[simp] theorem lCons_e : lCons a l ρ = (a ρ).bind fun x => (l ρ).bind fun xs => .ok (x :: xs) := rfl
@[simp] theorem dLst_e : dLst l ρ = (l ρ).bind fun ds => .ok (.list ds) := rfl
@[simp] theorem dTup_e : dTup l ρ = (l ρ).bind fun ds => .ok (.tuple ds) := rfl
@[simp] theorem dIx_e : dIx fb e ρ = (fb ρ).bind fun s => (e ρ).bind fun d => ixS s d := rfl
@[simp] theorem oN_e : oN ρ = .ok none := rfl
@[simp] theorem oE_e : oE e ρ = (e ρ).bind fun d => match d with
  | .int i => .ok (some i)
  | _ => .no := rfl
@[simp] theorem dSl_e {lo hi : DO} : dSl e lo hi ρ = (e ρ).bind fun d => (lo ρ).bind fun l => (hi ρ).bind fun h => slD d l h := rfl
@[simp] theorem dRev_e : dRev e ρ = (e ρ).bind fun d => match d with
  | .list ds => .ok (.list ds.reverse)
  | _ => .no := rfl
@[simp] theorem iSeq_e : iSeq fb ρ = (fb ρ).bind itS := rfl
@[simp] theorem iR1_e : iR1 a ρ = (a ρ).bind rng1 := rfl
@[simp] theorem iR2_e : iR2 a b ρ = (a ρ).bind fun x => (b ρ).bind fun y => rng2 x y := rfl
@[simp] theorem gN_e (i : Nat) (d : PyData) : gN i d ρ = .ok (ρ.set i (.fz d)) := rfl
@[simp] theorem gT_e (is : List Nat) (ds : List PyData) : gT is (.tuple ds) ρ = if ds.length = is.length then .ok (setAll is ds ρ) else .no := rfl
@[simp] theorem tYes_e : tYes ρ = .ok true := rfl
@[simp] theorem lComp_e {it : DL} {g : Tg} {vs : List Nat} : lComp it g t e vs ρ = (it ρ).bind fun ds => if ds.length ≤ lim then compGo g t e (wipeE ρ vs) ds else .no := rfl
@[simp] theorem saNil_e : saNil ρ = .ok [] := rfl
@[simp] theorem saCons_e : saCons fb ar ρ = (fb ρ).bind fun s => (frzS s).bind fun s => (ar ρ).bind fun ss => .ok (s :: ss) := rfl
@[simp] theorem dCall_e (f : DF) : dCall f ar ρ = (ar ρ).bind f := rfl
@[simp] theorem dLen_e : dLen fb ρ = (fb ρ).bind lenS := rfl
@[simp] theorem dAny_e : dAny e ρ = (e ρ).bind anyD := rfl
@[simp] theorem dAll_e : dAll e ρ = (e ρ).bind allD := rfl
@[simp] theorem lSorted_e : lSorted fb ρ = (fb ρ).bind sortS := rfl
@[simp] theorem lSSI_e : lSSI e ρ = (e ρ).bind ssetI := rfl
@[simp] theorem lSSP_e : lSSP e ρ = (e ρ).bind ssetP := rfl
@[simp] theorem dLenSet_e : dLenSet e ρ = (e ρ).bind lsetI := rfl
@[simp] theorem lList_e : lList fb ρ = (fb ρ).bind listD := rfl
@[simp] theorem dTuple_e : dTuple e ρ = (e ρ).bind tupD := rfl
@[simp] theorem dIsB_e : dIsB fb ρ = (fb ρ).bind fun s => match s with
  | .fz (.bool _) => .ok (.bool true)
  | .fz (.str _) => .ok (.bool false)
  | .fz (.list _) => .ok (.bool false)
  | .fz (.tuple _) => .ok (.bool false)
  | _ => .no := rfl
end

/-! ### data of ints -/
abbrev tupI (l : List Int) : PyData := .tuple (l.map .int)
def shN (n : Nat) (d : PyData) : Prop := d.canLay0 = true ∧ d.depth ≤ n
theorem sh_of {n : Nat} {d : PyData} (h : shN n d) (hn : n ≤ 64 := by decide) : SeqAt.shaped d = true := by
  unfold SeqAt.shaped
  rw [h.1, Bool.true_and, decide_eq_true_eq]
  exact Nat.le_trans h.2 hn
theorem sh_mono {n m : Nat} {d : PyData} (h : shN n d) (hm : n ≤ m) : shN m d := ⟨h.1, Nat.le_trans h.2 hm⟩
theorem sh_none : shN 1 .none := ⟨rfl, by decide⟩
theorem sh_bool (b : Bool) : shN 1 (.bool b) := ⟨rfl, by simp [PyData.depth]⟩
theorem sh_int (i : Int) : shN 1 (.int i) := ⟨rfl, by simp [PyData.depth]⟩
theorem sh_str (s : Str) (h : (PyData.str s).canLay0 = true) : shN 1 (.str s) := ⟨h, by simp [PyData.depth]⟩
theorem sh_all {n : Nat} : ∀ {ds : List PyData}, (∀ d ∈ ds, shN n d) → PyData.canLayAll0 ds = true ∧ PyData.depthAll ds ≤ n
  | [], _ => ⟨rfl, by simp [PyData.depthAll]⟩
  | d :: ds, h => by
    obtain ⟨h1, h2⟩ := h d List.mem_cons_self
    obtain ⟨h3, h4⟩ := sh_all (ds := ds) fun x hx => h x (List.mem_cons_of_mem _ hx)
    refine ⟨by rw [PyData.canLayAll0, h1, h3]; rfl, ?_⟩
    rw [PyData.depthAll]
    omega
theorem sh_list {n : Nat} {ds : List PyData} (h : ∀ d ∈ ds, shN n d) : shN (n + 1) (.list ds) := by
  obtain ⟨h1, h2⟩ := sh_all h
  exact ⟨by rw [PyData.canLay0]; exact h1, by rw [PyData.depth]; omega⟩
theorem sh_tuple {n : Nat} {ds : List PyData} (h : ∀ d ∈ ds, shN n d) : shN (n + 1) (.tuple ds) := by
  obtain ⟨h1, h2⟩ := sh_all h
  exact ⟨by rw [PyData.canLay0]; exact h1, by rw [PyData.depth]; omega⟩
theorem sh_map {α : Type} {n : Nat} {f : α → PyData} (h : ∀ a, shN n (f a)) (l : List α) : ∀ d ∈ l.map f, shN n d := fun d hd => by
  obtain ⟨a, _, rfl⟩ := List.mem_map.mp hd
  exact h a
theorem sh_tupI (l : List Int) : shN 2 (tupI l) := sh_tuple (sh_map sh_int l)
theorem sh_listI (l : List Int) : shN 2 (.list (l.map .int)) := sh_list (sh_map sh_int l)
theorem sh_listT (l : List (List Int)) : shN 3 (.list (l.map tupI)) := sh_list (sh_map sh_tupI l)
theorem eqv_int (i j : Int) : PyData.eqv (.int i) (.int j) = decide (i = j) := by
  rw [PyData.eqv]
  by_cases h : i = j
  · subst h; simp
  · simp [h]
theorem eqv_str (x y : Str) : PyData.eqv (.str x) (.str y) = decide (x = y) := by
  rw [PyData.eqv]
  by_cases h : x = y
  · subst h; simp
  · simp [h]
theorem eqv_all {α : Type} [DecidableEq α] {f : α → PyData} (h : ∀ a b, PyData.eqv (f a) (f b) = decide (a = b)) : ∀ x y : List α, PyData.eqvAll (x.map f) (y.map f) = decide (x = y)
  | [], [] => by simp [PyData.eqvAll]
  | [], _ :: _ => by simp [PyData.eqvAll]
  | _ :: _, [] => by simp [PyData.eqvAll]
  | a :: x, b :: y => by
    rw [List.map_cons, List.map_cons, PyData.eqvAll, h, eqv_all h x y]
    simp [Bool.decide_and]
theorem eqv_tupI (x y : List Int) : PyData.eqv (tupI x) (tupI y) = decide (x = y) := by
  unfold tupI
  rw [PyData.eqv]
  exact eqv_all eqv_int x y
theorem eqv_listI (x y : List Int) : PyData.eqv (.list (x.map .int)) (.list (y.map .int)) = decide (x = y) := by
  rw [PyData.eqv]
  exact eqv_all eqv_int x y
theorem eqv_listT (x y : List (List Int)) : PyData.eqv (.list (x.map tupI)) (.list (y.map tupI)) = decide (x = y) := by
  rw [PyData.eqv]
  exact eqv_all eqv_tupI x y
theorem eq_of {x y : PyData} {b : Bool} {n m : Nat} (h1 : shN n x) (h2 : shN m y) (h : PyData.eqv x y = b) (hn : n ≤ 64 := by decide) (hm : m ≤ 64 := by decide) : cEq x y = .ok b := by
  unfold cEq
  rw [if_pos ⟨sh_of h1 hn, sh_of h2 hm⟩, h]
theorem ne_of {x y : PyData} {b : Bool} {n m : Nat} (h1 : shN n x) (h2 : shN m y) (h : PyData.eqv x y = b) (hn : n ≤ 64 := by decide) (hm : m ≤ 64 := by decide) : cNe x y = .ok (!b) := by
  unfold cNe
  rw [if_pos ⟨sh_of h1 hn, sh_of h2 hm⟩, h]
@[simp] theorem cEq_int (i j : Int) : cEq (.int i) (.int j) = .ok (decide (i = j)) := eq_of (sh_int i) (sh_int j) (eqv_int i j)
@[simp] theorem cNe_int (i j : Int) : cNe (.int i) (.int j) = .ok (!decide (i = j)) := ne_of (sh_int i) (sh_int j) (eqv_int i j)
@[simp] theorem cEq_tup (x y : List Int) : cEq (.tuple (x.map .int)) (.tuple (y.map .int)) = .ok (decide (x = y)) := eq_of (sh_tupI x) (sh_tupI y) (eqv_tupI x y)
@[simp] theorem cNe_lst (x y : List Int) : cNe (.list (x.map .int)) (.list (y.map .int)) = .ok (!decide (x = y)) := ne_of (sh_listI x) (sh_listI y) (eqv_listI x y)
@[simp] theorem cNe_lsT (x y : List (List Int)) : cNe (.list (x.map tupI)) (.list (y.map tupI)) = .ok (!decide (x = y)) := ne_of (sh_listT x) (sh_listT y) (eqv_listT x y)
@[simp] theorem cLt_int (i j : Int) : cLt (.int i) (.int j) = .ok (decide (i < j)) := rfl
@[simp] theorem cLe_int (i j : Int) : cLe (.int i) (.int j) = .ok (decide (i ≤ j)) := rfl
@[simp] theorem cGt_int (i j : Int) : cGt (.int i) (.int j) = .ok (decide (j < i)) := rfl
@[simp] theorem cGe_int (i j : Int) : cGe (.int i) (.int j) = .ok (decide (j ≤ i)) := rfl
theorem ints_map : ∀ ns : List Int, intsOf (ns.map .int) = some ns
  | [] => rfl
  | n :: ns => by
    show (intsOf (ns.map .int)).map (n :: ·) = _
    rw [ints_map ns]; rfl
@[simp] theorem cLt_tup (x y : List Int) : cLt (.tuple (x.map .int)) (.tuple (y.map .int)) = .ok (lexLt x y) := by
  unfold cLt
  simp only [ints_map]
@[simp] theorem opAdd_int (i j : Int) : opAdd (.int i) (.int j) = .ok (.int (i + j)) := rfl
@[simp] theorem opSub_int (i j : Int) : opSub (.int i) (.int j) = .ok (.int (i - j)) := rfl
theorem opMul_int (i j : Int) (h : -(2 ^ 64) < i ∧ i < 2 ^ 64 ∨ -(2 ^ 64) < j ∧ j < 2 ^ 64) : opMul (.int i) (.int j) = .ok (.int (i * j)) := if_pos h
theorem opMod_int (i j : Int) (h : 0 < j) : opMod (.int i) (.int j) = .ok (.int (i % j)) := if_pos h
theorem opDiv_int (i j : Int) (h : 0 < j ∧ j < 1073741824) : opDiv (.int i) (.int j) = .ok (.int (i / j)) := if_pos h
theorem opAdd_tup (x y : List PyData) (h : x.length + y.length ≤ 1000000) : opAdd (.tuple x) (.tuple y) = .ok (.tuple (x ++ y)) := if_pos h
theorem opAdd_lst (x y : List PyData) (h : x.length + y.length ≤ 1000000) : opAdd (.list x) (.list y) = .ok (.list (x ++ y)) := if_pos h
@[simp] theorem atD_nat {α : Type} (xs : List α) (i : Nat) : atD xs (i : Int) = xs[i]? := by
  unfold atD
  rw [if_pos (by omega)]
  by_cases h : (i : Int) < xs.length
  · rw [if_pos h]; rfl
  · rw [if_neg h, List.getElem?_eq_none (by omega)]
@[simp] theorem atD_zero {α : Type} (xs : List α) : atD xs 0 = xs[0]? := atD_nat xs 0
@[simp] theorem atD_one {α : Type} (xs : List α) : atD xs 1 = xs[1]? := atD_nat xs 1
theorem atD_pos {α : Type} (xs : List α) (i : Int) (h : 0 ≤ i) : atD xs i = xs[i.toNat]? := by
  obtain ⟨n, rfl⟩ := Int.eq_ofNat_of_zero_le h
  exact atD_nat xs n
@[simp] theorem atD_last {α : Type} (xs : List α) : atD xs (-1) = xs.getLast? := by
  unfold atD
  rw [if_neg (by omega)]
  cases xs with
  | nil => simp
  | cons x xs =>
    rw [if_pos (by simp only [List.length_cons]; omega), List.getLast?_eq_getElem?]
    congr 1
    simp only [List.length_cons]
    omega

@[simp] theorem ixS_l (ds : List PyData) (i : Int) : ixS (.fz (.list ds)) (.int i) = ofO (atD ds i) := rfl
@[simp] theorem ixS_t (ds : List PyData) (i : Int) : ixS (.fz (.tuple ds)) (.int i) = ofO (atD ds i) := rfl
@[simp] theorem ixS_o (ds : List PyData) (i : Int) : ixS (.ow ds) (.int i) = ofO (atD ds i) := rfl
@[simp] theorem ixS_s (ns : List Int) (i : Int) : ixS (.sc ns) (.int i) = (ofO (atD ns i)).bind fun n => .ok (.int n) := rfl
@[simp] theorem ofO_some {α : Type} (a : α) : ofO (some a) = .ok a := rfl
@[simp] theorem lenS_l (ds : List PyData) : lenS (.fz (.list ds)) = .ok (.int ds.length) := rfl
@[simp] theorem lenS_t (ds : List PyData) : lenS (.fz (.tuple ds)) = .ok (.int ds.length) := rfl
@[simp] theorem lenS_o (ds : List PyData) : lenS (.ow ds) = .ok (.int ds.length) := rfl
@[simp] theorem lenS_s (ns : List Int) : lenS (.sc ns) = .ok (.int ns.length) := rfl
@[simp] theorem itS_l (ds : List PyData) : itS (.fz (.list ds)) = .ok ds := rfl
@[simp] theorem itS_t (ds : List PyData) : itS (.fz (.tuple ds)) = .ok ds := rfl
@[simp] theorem itS_o (ds : List PyData) : itS (.ow ds) = .ok ds := rfl
@[simp] theorem listD_l (ds : List PyData) : listD (.fz (.list ds)) = .ok ds := rfl
@[simp] theorem listD_t (ds : List PyData) : listD (.fz (.tuple ds)) = .ok ds := rfl
@[simp] theorem listD_o (ds : List PyData) : listD (.ow ds) = .ok ds := rfl
@[simp] theorem tupD_l (ds : List PyData) : tupD (.list ds) = .ok (.tuple ds) := rfl
@[simp] theorem truS_n : truS (.fz .none) = .ok false := rfl
@[simp] theorem truS_b (b : Bool) : truS (.fz (.bool b)) = .ok b := rfl
@[simp] theorem truS_l (ds : List PyData) : truS (.fz (.list ds)) = .ok (!ds.isEmpty) := rfl
@[simp] theorem truS_t (ds : List PyData) : truS (.fz (.tuple ds)) = .ok (!ds.isEmpty) := rfl
@[simp] theorem truS_o (ds : List PyData) : truS (.ow ds) = .ok (!ds.isEmpty) := rfl
@[simp] theorem truS_s (ns : List Int) : truS (.sc ns) = .ok (!ns.isEmpty) := rfl
@[simp] theorem frzS_f (d : PyData) : frzS (.fz d) = .ok (.fz d) := rfl
@[simp] theorem frzS_x (k : XK) : frzS (.ex k) = .ok (.ex k) := rfl
@[simp] theorem frzS_s (ns : List Int) : frzS (.sc ns) = .ok (.sc ns) := rfl
@[simp] theorem asB_b (b : Bool) : asB (.bool b) = .ok b := rfl
theorem rng1_ok (n : Int) (h1 : 0 ≤ n) (h2 : n ≤ 1000000) : rng1 (.int n) = .ok (rngD 0 n.toNat) := if_pos (by omega)
@[simp] theorem rng1_nat (n : Nat) (h : n ≤ 1000000) : rng1 (.int n) = .ok (rngD 0 n) := rng1_ok n (by omega) (by omega)
theorem rng2_ok (m n : Int) (h0 : 0 ≤ m) (h1 : m ≤ 1000000) (h2 : 0 ≤ n) (h3 : n ≤ 1000000) : rng2 (.int m) (.int n) = .ok (rngD m (n - m).toNat) := if_pos (by omega)
@[simp] theorem rngM_len (lo : Int) (n : Nat) : (rngD lo n).length = n := by simp [rngD]
theorem rngD_at {lo : Int} {n i : Nat} {d : PyData} (h : (rngD lo n)[i]? = some d) : i < n ∧ d = .int (lo + (i : Int)) := by
  unfold rngD at h
  rw [List.getElem?_map] at h
  cases e : (List.range n)[i]? with
  | none => rw [e] at h; cases h
  | some j =>
    rw [e] at h
    obtain ⟨h1, h2⟩ := List.getElem?_eq_some_iff.mp e
    rw [List.getElem_range] at h2
    subst h2
    rw [List.length_range] at h1
    have h3 : PyData.int (lo + (i : Int)) = d := Option.some.inj h
    exact ⟨h1, h3.symm⟩

/-! ### the rules of the statements: N holds of the state behind it, R of any other outcome -/
def W (o : Ou) (N : Env → Prop) (R : Ou → Prop) : Prop := match o with
  | .nx ρ => N ρ
  | o => R o
section
variable {N : Env → Prop} {R : Ou → Prop} {ρ : Env} {f g : DS}
theorem wp_seq (h : W (f ρ) (fun ρ' => W (g ρ') N R) R) : W (sSeq f g ρ) N R := by
  unfold sSeq
  cases e : f ρ <;> rw [e] at h <;> exact h
theorem wp_nx (h : N ρ) : W (sNx ρ) N R := h
theorem wp_set {i : Nat} {e : DE} {d : PyData} (he : e ρ = .ok d) (h : N (ρ.set i (.fz d))) : W (sSet i e ρ) N R := by
  unfold sSet; rw [he]; exact h
theorem wp_set_er {i : Nat} {e : DE} {k : XK} (he : e ρ = .er k) (h : R (.er k ρ)) : W (sSet i e ρ) N R := by
  unfold sSet; rw [he]; exact h
theorem wp_own {i : Nat} {l : DL} {ds : List PyData} (he : l ρ = .ok ds) (h : N (ρ.set i (.ow ds))) : W (sOwn i l ρ) N R := by
  unfold sOwn; rw [he]; exact h
theorem wp_tg {k : Tg} {e : DE} {d : PyData} {ρ' : Env} (he : e ρ = .ok d) (hg : k d ρ = .ok ρ') (h : N ρ') : W (sTg k e ρ) N R := by
  unfold sTg; rw [he, bE_ok, hg]; exact h
theorem wp_expr {e : DE} {d : PyData} (he : e ρ = .ok d) (h : N ρ) : W (sExpr e ρ) N R := by
  unfold sExpr; rw [he]; exact h
theorem wp_expr_er {e : DE} {k : XK} (he : e ρ = .er k) (h : R (.er k ρ)) : W (sExpr e ρ) N R := by
  unfold sExpr; rw [he]; exact h
theorem wp_ret {e : DE} {d : PyData} (he : e ρ = .ok d) (h : R (.rt d)) : W (sRet e ρ) N R := by
  unfold sRet; rw [he]; exact h
theorem wp_ret_er {e : DE} {k : XK} (he : e ρ = .er k) (h : R (.er k ρ)) : W (sRet e ρ) N R := by
  unfold sRet; rw [he]; exact h
theorem wp_raise {k : XK} (h : R (.er k ρ)) : W (sRaise k ρ) N R := h
theorem wp_if {t : DT} {b : Bool} (ht : t ρ = .ok b) (h1 : b = true → W (f ρ) N R) (h2 : b = false → W (g ρ) N R) : W (sIf t f g ρ) N R := by
  unfold sIf; rw [ht, bE_ok]
  cases b with
  | true => exact h1 rfl
  | false => exact h2 rfl
theorem wp_app {i : Nat} {e : DE} {d : PyData} {ds : List PyData} (hi : ρ[i]? = some (.ow ds)) (he : e ρ = .ok d) (hl : ds.length < 1000000) (h : N (ρ.set i (.ow (ds ++ [d])))) : W (sApp i e ρ) N R := by
  unfold sApp; rw [hi]; simp only [he, bE_ok]; rw [if_pos (show ds.length < lim from hl)]; exact h
theorem wp_ext {i : Nat} {l : DL} {ds es : List PyData} (hi : ρ[i]? = some (.ow ds)) (he : l ρ = .ok es) (hl : ds.length + es.length ≤ 1000000) (h : N (ρ.set i (.ow (ds ++ es)))) : W (sExt i l ρ) N R := by
  unfold sExt; rw [hi]; simp only [he, bE_ok]; rw [if_pos (show ds.length + es.length ≤ lim from hl)]; exact h
theorem wp_frz {i : Nat} {ds : List PyData} (hi : ρ[i]? = some (.ow ds)) (h : N (ρ.set i (.fz (.list ds)))) : W (sFrz i ρ) N R := by
  unfold sFrz; rw [hi]; exact h
theorem wp_frz0 {i : Nat} {s : Sl} (hi : ρ[i]? = some s) (hs : s.own = false) (h : N ρ) : W (sFrz i ρ) N R := by
  unfold sFrz; rw [hi]
  cases s with
  | ow _ => cases hs
  | _ => exact h
theorem wp_loop {k : Tg} : ∀ {ds : List PyData} {P : Nat → Env → Prop} {ρ : Env} (h0 : P 0 ρ)
    (step : ∀ i d ρ, ds[i]? = some d → P i ρ → ∃ ρ1, k d ρ = .ok ρ1 ∧ W (f ρ1) (fun ρ2 => P (i + 1) ρ2) (fun o => match o with
      | .ct ρ2 => P (i + 1) ρ2
      | .bk ρ2 => N ρ2
      | o => R o)) (fin : ∀ ρ', P ds.length ρ' → N ρ'), W (loopGo k f ds ρ) N R := by
  intro ds
  induction ds with
  | nil => intro P ρ h0 _ fin; exact fin ρ h0
  | cons d ds ih =>
    intro P ρ h0 step fin
    obtain ⟨ρ1, e1, h1⟩ := step 0 d ρ rfl h0
    have next : ∀ ρ2, P 1 ρ2 → W (loopGo k f ds ρ2) N R := fun ρ2 h2 => ih (P := fun i => P (i + 1)) h2 (fun i d' ρ' e h => step (i + 1) d' ρ' e h) fin
    unfold loopGo
    rw [e1, bE_ok]
    cases e : f ρ1 with
    | nx ρ2 => rw [e] at h1; exact next ρ2 h1
    | ct ρ2 => rw [e] at h1; exact next ρ2 h1
    | bk ρ2 => rw [e] at h1; exact h1
    | rt d => rw [e] at h1; exact h1
    | er k ρ2 => rw [e] at h1; exact h1
    | no => rw [e] at h1; exact h1
theorem wp_for {k : Tg} {it : DL} {ds : List PyData} (hi : it ρ = .ok ds) (P : Nat → Env → Prop) (h0 : P 0 ρ)
    (step : ∀ i d ρ, ds[i]? = some d → P i ρ → ∃ ρ1, k d ρ = .ok ρ1 ∧ W (f ρ1) (fun ρ2 => P (i + 1) ρ2) (fun o => match o with
      | .ct ρ2 => P (i + 1) ρ2
      | .bk ρ2 => N ρ2
      | o => R o)) (fin : ∀ ρ', P ds.length ρ' → N ρ') : W (sFor it k f ρ) N R := by
  unfold sFor; rw [hi]; exact wp_loop h0 step fin
theorem wp_while {t : DT} (I : Nat → Env → Prop) : ∀ {n : Nat} {ρ : Env} {m : Nat} (hm : m < n) (h0 : I m ρ)
    (step : ∀ m ρ, I m ρ → (t ρ = .ok false ∧ N ρ) ∨ (t ρ = .ok true ∧ W (f ρ) (fun ρ2 => ∃ m', m' < m ∧ I m' ρ2) (fun o => match o with
      | .ct ρ2 => ∃ m', m' < m ∧ I m' ρ2
      | .bk ρ2 => N ρ2
      | o => R o))), W (sWhile t f n ρ) N R := by
  intro n
  induction n with
  | zero => intro ρ m hm; exact absurd hm (Nat.not_lt_zero _)
  | succ n ih =>
    intro ρ m hm h0 step
    unfold sWhile
    rcases step m ρ h0 with ⟨e, h⟩ | ⟨e, h⟩
    · rw [e, bE_ok, if_neg Bool.false_ne_true]; exact h
    · rw [e, bE_ok, if_pos rfl]
      cases ef : f ρ with
      | nx ρ2 =>
        rw [ef] at h
        obtain ⟨m', h1, h2⟩ := h
        exact ih (by omega) h2 step
      | ct ρ2 =>
        rw [ef] at h
        obtain ⟨m', h1, h2⟩ := h
        exact ih (by omega) h2 step
      | bk ρ2 => rw [ef] at h; exact h
      | rt d => rw [ef] at h; exact h
      | er k ρ2 => rw [ef] at h; exact h
      | no => rw [ef] at h; exact h
theorem wp_try {b : DS} {ks : XK → Bool} {i j : Nat} (h : W (b ρ) N (fun o => match o with
    | .er k ρ' => if ks k = true then i < ρ'.length ∧ N ((ρ'.set i .nil).set j (.ex k)) else R (.er k ρ')
    | o => R o)) : W (sTry b ks i j ρ) N R := by
  unfold sTry
  cases e : b ρ with
  | er k ρ' =>
    rw [e] at h
    simp only [W] at h ⊢
    by_cases q : ks k = true
    · rw [if_pos q] at h ⊢
      rw [if_pos h.1]
      exact h.2
    · rw [if_neg q] at h ⊢
      exact h
  | nx ρ' => rw [e] at h; exact h
  | ct ρ' => rw [e] at h; exact h
  | bk ρ' => rw [e] at h; exact h
  | rt d => rw [e] at h; exact h
  | no => rw [e] at h; exact h
end
def ouR : Ou → Rs PyData
  | .nx _ => .ok .none
  | .rt d => .ok d
  | .er k _ => .er k
  | _ => .no
theorem wp_run {b : DS} {n : Nat} {as : List Sl} {r : Rs PyData} (ρ0 : Env) (h : W (b ρ0) (fun _ => Rs.ok PyData.none = r) (fun o => ouR o = r)) (e0 : as ++ List.replicate (n - as.length) .nil = ρ0 := by rfl) : runD b n as = r := by
  unfold runD
  rw [e0]
  cases e : b ρ0 <;> rw [e] at h <;> exact h
theorem run_ex {b : DS} {n : Nat} {as : List Sl} {Q : Rs PyData → Prop} (ρ0 : Env) (h : W (b ρ0) (fun _ => Q (.ok .none)) (fun o => Q (ouR o))) (e0 : as ++ List.replicate (n - as.length) .nil = ρ0 := by rfl) : Q (runD b n as) := by
  unfold runD
  rw [e0]
  cases e : b ρ0 <;> rw [e] at h <;> exact h
end MS

namespace MS
open PySem
/-! MsM1: what the webs' defs compute. -/
/-! ### look_web -/
def webL (n : Int) (ls : List (List Int)) : PyData := .tuple [.int n, .list (ls.map tupI)]
def okLine (n : Int) (l : List Int) : Bool := match l with
  | [a, b] => decide (0 ≤ a ∧ a < b ∧ b < n)
  | _ => false
def okStep (ls : List (List Int)) (k : Nat) : Bool := k == 0 || lexLt (ls.getD (k - 1) []) (ls.getD k [])
def okWeb (n : Int) (ls : List (List Int)) : Bool := decide (1 ≤ n ∧ n ≤ 12) && (List.range ls.length).all fun k => okLine n (ls.getD k []) && okStep ls k
theorem all_range {p : Nat → Bool} {n : Nat} : (List.range n).all p = true ↔ ∀ k, k < n → p k = true := by
  rw [List.all_eq_true]
  exact ⟨fun h k hk => h k (List.mem_range.mpr hk), fun h k hk => h k (List.mem_range.mp hk)⟩
theorem bool_if {b c : Bool} : (if b = true then Rs.ok c else Rs.ok false) = Rs.ok (b && c) := by cases b <;> rfl
theorem bool_if' {b c : Bool} : (if b = true then Rs.ok true else Rs.ok c) = Rs.ok (b || c) := by cases b <;> rfl
theorem look_web_den (n : Int) (ls : List (List Int)) (hl : ls.length ≤ 1000) : d_look_web [.fz (webL n ls)] = if okWeb n ls = true then .ok .none else .er .web := by
  refine wp_run [.fz (webL n ls), .nil, .nil, .nil] ?_
  refine wp_seq (wp_tg (d := webL n ls) (ρ' := [.fz (webL n ls), .fz (.int n), .fz (.list (ls.map tupI)), .nil]) rfl rfl ?_)
  refine wp_seq (wp_if (b := !decide (1 ≤ n ∧ n ≤ 12)) ?_ (fun hb => ?_) (fun hb => ?_))
  · by_cases h : 1 ≤ n <;> simp [h]
  · refine wp_raise ?_
    have : okWeb n ls = false := by unfold okWeb; rw [Bool.and_eq_false_iff]; exact .inl (by simp at hb ⊢; omega)
    rw [this]; rfl
  · have hn : decide (1 ≤ n ∧ n ≤ 12) = true := by simpa using hb
    refine wp_for (ds := rngD 0 ls.length) ?_ (fun i ρ => (∃ s, ρ = [.fz (webL n ls), .fz (.int n), .fz (.list (ls.map tupI)), s]) ∧ ∀ k, k < i → (okLine n (ls.getD k []) && okStep ls k) = true) ⟨⟨_, rfl⟩, by omega⟩ ?_ ?_
    · simp
      exact rng1_nat _ (by omega)
    · rintro i d ρ hd ⟨⟨s, rfl⟩, hk⟩
      obtain ⟨hi, rfl⟩ := rngD_at hd
      refine ⟨_, rfl, ?_⟩
      simp only [Int.zero_add]
      refine wp_if (b := !(okLine n (ls.getD i []) && okStep ls i)) ?_ (fun hb => ?_) (fun hb => ?_)
      · have el : ls[i]? = some ls[i] := List.getElem?_eq_getElem hi
        have eg : ls.getD i [] = ls[i] := by rw [List.getD_eq_getElem?_getD, el]; rfl
        have step : 0 < i → (ofO (atD (ls.map tupI) ((i : Int) - 1))) = .ok (tupI (ls.getD (i - 1) [])) := fun h => by
          rw [show (i : Int) - 1 = ((i - 1 : Nat) : Int) by omega, atD_nat, List.getElem?_map, List.getD_eq_getElem?_getD, List.getElem?_eq_getElem (by omega : i - 1 < ls.length)]
          rfl
        rw [eg]
        unfold okStep
        rw [eg]
        simp [el]
        generalize ls[i] = l
        match l with
        | [] => simp [okLine]
        | [a] => simp [okLine]
        | a :: b :: c :: r => simp [okLine]; omega
        | [a, b] =>
          simp [okLine]
          by_cases h0 : 0 ≤ a
          · by_cases h1 : a < b
            · by_cases h2 : b < n
              · simp [h0, h1, h2]
                by_cases h3 : 0 < i
                · simp [h3, step h3, show i ≠ 0 by omega]
                · simp [show i = 0 by omega]
              · simp [h0, h1, h2]
            · simp [h0, h1]
          · simp [h0]
      · refine wp_raise ?_
        have hb' : (okLine n (ls.getD i []) && okStep ls i) = false := by
          cases e : (okLine n (ls.getD i []) && okStep ls i) with
          | false => rfl
          | true => rw [e] at hb; cases hb
        have : okWeb n ls = false := by
          unfold okWeb
          rw [Bool.and_eq_false_iff]
          refine .inr (Bool.eq_false_iff.mpr fun h => ?_)
          rw [all_range.mp h i hi] at hb'
          cases hb'
        rw [this]; rfl
      · refine wp_nx ⟨⟨_, rfl⟩, fun k h => ?_⟩
        rcases Nat.lt_succ_iff_lt_or_eq.mp h with h | rfl
        · exact hk k h
        · simpa using hb
    · rintro ρ' ⟨⟨s, rfl⟩, hk⟩
      rw [rngM_len] at hk
      have : okWeb n ls = true := by
        unfold okWeb
        rw [hn, Bool.true_and]
        exact all_range.mpr hk
      rw [this]; rfl

/-! ### comprehensions over typed lists -/
theorem comp_t {α β : Type} {g : Tg} {t : DT} {e : DE} {ρ : Env} {f : α → PyData} {F : α → PyData} {p : α → Bool} : ∀ {xs : List α}, (∀ x ∈ xs, ∃ ρ1, g (f x) ρ = .ok ρ1 ∧ t ρ1 = .ok (p x) ∧ (p x = true → e ρ1 = .ok (F x))) → compGo g t e ρ (xs.map f) = .ok ((xs.filter p).map F)
  | [], _ => rfl
  | x :: xs, h => by
    obtain ⟨ρ1, h1, h2, h3⟩ := h x List.mem_cons_self
    have ih := comp_t (xs := xs) (β := β) fun y hy => h y (List.mem_cons_of_mem _ hy)
    rw [List.map_cons]
    unfold compGo
    simp only [h1, h2]
    cases e1 : p x with
    | true => simp only [h3 e1, ih, Rs.bind_ok, List.filter_cons, e1, if_true, List.map_cons]
    | false => simp only [ih, List.filter_cons, e1, Bool.false_eq_true, if_false]
theorem comp_a {α : Type} {g : Tg} {e : DE} {ρ : Env} {f : α → PyData} {F : α → PyData} {xs : List α} (h : ∀ x ∈ xs, ∃ ρ1, g (f x) ρ = .ok ρ1 ∧ e ρ1 = .ok (F x)) : compGo g tYes e ρ (xs.map f) = .ok (xs.map F) := by
  have := comp_t (β := α) (p := fun _ => true) (t := tYes) (e := e) (g := g) (ρ := ρ) (f := f) (F := F) (xs := xs) fun x hx => by
    obtain ⟨ρ1, h1, h2⟩ := h x hx
    exact ⟨ρ1, h1, rfl, fun _ => h2⟩
  rw [this, List.filter_eq_self.mpr fun _ _ => rfl]
theorem lcomp_t {α : Type} {it : DL} {g : Tg} {t : DT} {e : DE} {ρ ρw : Env} {vs : List Nat} {f : α → PyData} {F : α → PyData} {p : α → Bool} {xs : List α} (hi : it ρ = .ok (xs.map f)) (hw : wipeE ρ vs = ρw) (hl : xs.length ≤ 1000000) (h : ∀ x ∈ xs, ∃ ρ1, g (f x) ρw = .ok ρ1 ∧ t ρ1 = .ok (p x) ∧ (p x = true → e ρ1 = .ok (F x))) : lComp it g t e vs ρ = .ok ((xs.filter p).map F) := by
  rw [lComp_e, hi, Rs.bind_ok, if_pos (by rw [List.length_map]; exact hl), hw]
  exact comp_t (β := α) h
theorem lcomp_a {α : Type} {it : DL} {g : Tg} {e : DE} {ρ ρw : Env} {vs : List Nat} {f : α → PyData} {F : α → PyData} {xs : List α} (hi : it ρ = .ok (xs.map f)) (hw : wipeE ρ vs = ρw) (hl : xs.length ≤ 1000000) (h : ∀ x ∈ xs, ∃ ρ1, g (f x) ρw = .ok ρ1 ∧ e ρ1 = .ok (F x)) : lComp it g tYes e vs ρ = .ok (xs.map F) := by
  rw [lComp_e, hi, Rs.bind_ok, if_pos (by rw [List.length_map]; exact hl), hw]
  exact comp_a h
theorem bools_map {α : Type} (q : α → Bool) : ∀ xs : List α, boolsOf (xs.map fun x => .bool (q x)) = some (xs.map q)
  | [] => rfl
  | x :: xs => by
    show (boolsOf (xs.map fun x => .bool (q x))).map (q x :: ·) = _
    rw [bools_map q xs]; rfl
theorem allD_map {α : Type} (q : α → Bool) (xs : List α) : allD (.list (xs.map fun x => .bool (q x))) = .ok (.bool (xs.all q)) := by
  show (ofO (boolsOf (xs.map fun x => .bool (q x)))).bind _ = _
  rw [bools_map]
  simp [List.all_map]
theorem anyD_map {α : Type} (q : α → Bool) (xs : List α) : anyD (.list (xs.map fun x => .bool (q x))) = .ok (.bool (xs.any q)) := by
  show (ofO (boolsOf (xs.map fun x => .bool (q x)))).bind _ = _
  rw [bools_map]
  simp [List.any_map]
theorem inAny_int (a : Int) (ms : List Int) : inAny (.int a) (ms.map .int) = decide (a ∈ ms) := by
  unfold inAny
  rw [List.any_map]
  induction ms with
  | nil => rfl
  | cons m ms ih =>
    rw [List.any_cons, ih]
    show (PyData.eqv (.int m) (.int a) || _) = _
    rw [eqv_int]
    by_cases h : m = a
    · subst h; simp
    · simp [h, Ne.symm h]
theorem flat_ints (ms : List Int) : (ms.map PyData.int).all flatD = true := by
  rw [List.all_eq_true]
  intro d hd
  obtain ⟨i, _, rfl⟩ := List.mem_map.mp hd
  rfl
@[simp] theorem cIn_tup (a : Int) (ms : List Int) : cIn (.int a) (.fz (.tuple (ms.map .int))) = .ok (decide (a ∈ ms)) := by
  unfold cIn
  simp only []
  rw [if_pos ⟨rfl, flat_ints ms⟩, inAny_int]
@[simp] theorem cIn_lst (a : Int) (ms : List Int) : cIn (.int a) (.fz (.list (ms.map .int))) = .ok (decide (a ∈ ms)) := by
  unfold cIn
  simp only []
  rw [if_pos ⟨sh_of (sh_int a), sh_of (sh_listI ms)⟩, inAny_int]
@[simp] theorem cIn_own (a : Int) (ms : List Int) : cIn (.int a) (.ow (ms.map .int)) = .ok (decide (a ∈ ms)) := by
  unfold cIn
  simp only []
  rw [if_pos ⟨sh_of (sh_int a), sh_of (sh_listI ms)⟩, inAny_int]
theorem rngD_map (n : Nat) : rngD 0 n = (List.range n).map fun (i : Nat) => PyData.int i := by
  unfold rngD
  simp

/-! ### marks -/
def pl (p : Int × Int) : List Int := [p.1, p.2]
abbrev webP (n : Int) (ps : List (Int × Int)) : PyData := webL n (ps.map pl)
def indep (ps : List (Int × Int)) (ms : List Int) : Bool := !ps.any fun p => decide (p.1 ∈ ms) && decide (p.2 ∈ ms)
def isMarks (n : Int) (ps : List (Int × Int)) (ms : List Int) : Bool := decide (ms = upI ms) && (ms.all fun s => decide (0 ≤ s ∧ s < n)) && indep ps ms
theorem any_comp {i1 i2 j : Nat} {ρ : Env} {ms : List Int} {ps : List (Int × Int)} (h12 : i1 ≠ i2) (h1 : i1 < ρ.length) (h2 : i2 < ρ.length) (j1 : j ≠ i1) (j2 : j ≠ i2) (hj : ρ[j]? = some (.fz (tupI ms))) (hl : ps.length ≤ 1000) {it : DL} (hi : it ρ = .ok ((ps.map pl).map tupI)) :
    dAny (dLst (lComp it (gT [i1, i2]) tYes (dAnd (dT (tIn (dVar i1) (bVar j))) (dT (tIn (dVar i2) (bVar j)))) [i1, i2])) ρ = .ok (.bool (!indep ps ms)) := by
  have e : lComp it (gT [i1, i2]) tYes (dAnd (dT (tIn (dVar i1) (bVar j))) (dT (tIn (dVar i2) (bVar j)))) [i1, i2] ρ = .ok (ps.map fun p => .bool (decide (p.1 ∈ ms) && decide (p.2 ∈ ms))) := by
    rw [List.map_map] at hi
    refine lcomp_a hi rfl (by omega) fun p _ => ?_
    refine ⟨_, rfl, ?_⟩
    simp [pl, wipeE, setAll, h12, Ne.symm h12, h1, h2, hj, List.getElem?_set_ne (Ne.symm j1), List.getElem?_set_ne (Ne.symm j2)]
    by_cases h : p.1 ∈ ms <;> simp [h]
  rw [dAny_e, dLst_e, e]
  simp only [Rs.bind_ok]
  rw [anyD_map]
  unfold indep
  rw [Bool.not_not]
theorem is_marks_den (n : Int) (ps : List (Int × Int)) (ms : List Int) (hl : ps.length ≤ 1000) (hm : ms.length < 60) : d_is_marks [.fz (webP n ps), .fz (tupI ms)] = .ok (.bool (isMarks n ps ms)) := by
  refine wp_run [.fz (webP n ps), .fz (tupI ms), .nil, .nil, .nil] ?_
  have e1 : dLst (lList (bVar 1)) [.fz (webP n ps), .fz (tupI ms), .nil, .nil, .nil] = .ok (.list (ms.map .int)) := rfl
  have e2 : dLst (lSSI (dVar 1)) [.fz (webP n ps), .fz (tupI ms), .nil, .nil, .nil] = .ok (.list ((upI ms).map .int)) := by
    simp [ssetI, ints_map, hm]
  have e3 : dAll (dLst (lComp (iSeq (bVar 1)) (gN 4) tYes (dT (tCh cLe cLt (dC (.int 0)) (dVar 4) (dIx (bVar 0) (dC (.int 0))))) [4])) [.fz (webP n ps), .fz (tupI ms), .nil, .nil, .nil] = .ok (.bool (ms.all fun s => decide (0 ≤ s ∧ s < n))) := by
    have : lComp (iSeq (bVar 1)) (gN 4) tYes (dT (tCh cLe cLt (dC (.int 0)) (dVar 4) (dIx (bVar 0) (dC (.int 0))))) [4] [.fz (webP n ps), .fz (tupI ms), .nil, .nil, .nil] = .ok (ms.map fun s => .bool (decide (0 ≤ s ∧ s < n))) := by
      refine lcomp_a (f := PyData.int) rfl rfl (by omega) fun s _ => ⟨_, rfl, ?_⟩
      simp [wipeE, webL]
      by_cases h : 0 ≤ s <;> simp [h]
    rw [dAll_e, dLst_e, this]
    simp only [Rs.bind_ok]
    exact allD_map _ _
  refine wp_seq (wp_if (b := !decide (ms = upI ms) || !(ms.all fun s => decide (0 ≤ s ∧ s < n))) ?_ (fun hb => ?_) (fun hb => ?_))
  · rw [tOr_e, tCmp_e, e1, e2, tNot_e, tTru_e, bOf_e, e3]
    simp only [Rs.bind_ok, cNe_lst, truS_b]
    cases decide (ms = upI ms) <;> rfl
  · refine wp_ret rfl ?_
    have : isMarks n ps ms = false := by
      unfold isMarks
      cases h1 : decide (ms = upI ms) with
      | false => rfl
      | true =>
        rw [h1] at hb
        have hb' : (ms.all fun s => decide (0 ≤ s ∧ s < n)) = false := by simpa using hb
        rw [hb']; rfl
    rw [this]; rfl
  · refine wp_nx (wp_ret (d := .bool (indep ps ms)) ?_ ?_)
    · rw [dNot_e, any_comp (ms := ms) (ps := ps) (by decide) (by simp) (by simp) (by decide) (by decide) rfl hl (by simp [webL])]
      simp
    · have : isMarks n ps ms = indep ps ms := by
        unfold isMarks
        have h1 : decide (ms = upI ms) = true := by
          cases h : decide (ms = upI ms) with
          | true => rfl
          | false => rw [h] at hb; cases hb
        have h2 : (ms.all fun s => decide (0 ≤ s ∧ s < n)) = true := by
          cases h : (ms.all fun s => decide (0 ≤ s ∧ s < n)) with
          | true => rfl
          | false => rw [h1, h] at hb; cases hb
        rw [h1, h2]; rfl
      rw [this]; rfl
theorem law_is_marks_den (n : Int) (ps : List (Int × Int)) (ms : List Int) (hl : ps.length ≤ 1000) : d__law_is_marks [.fz (webP n ps), .fz (tupI ms)] = .ok (.bool (indep ps ms)) := by
  refine wp_run [.fz (webP n ps), .fz (tupI ms), .nil, .nil] (wp_ret (d := .bool (indep ps ms)) ?_ rfl)
  rw [dNot_e, any_comp (ms := ms) (ps := ps) (by decide) (by simp) (by simp) (by decide) (by decide) rfl hl (by simp [webL])]
  simp
/-! MsM2: all_marks, the law's sets. -/
def rngZ (lo n : Int) : List Int := (List.range (n - lo).toNat).map fun (i : Nat) => lo + (i : Int)
theorem rngZ_map (lo n : Int) : rngD lo (n - lo).toNat = (rngZ lo n).map PyData.int := by
  unfold rngD rngZ
  rw [List.map_map]
  rfl
theorem rngZ_mem {lo n s : Int} : s ∈ rngZ lo n ↔ lo ≤ s ∧ s < n := by
  unfold rngZ
  rw [List.mem_map]
  constructor
  · rintro ⟨i, hi, rfl⟩
    rw [List.mem_range] at hi
    omega
  · intro h
    exact ⟨(s - lo).toNat, List.mem_range.mpr (by omega), by omega⟩
theorem rngZ_len (lo n : Int) : (rngZ lo n).length = (n - lo).toNat := by simp [rngZ]
theorem rng0_map (n : Int) : rngD 0 n.toNat = (rngZ 0 n).map PyData.int := by
  rw [← rngZ_map, Int.sub_zero]
def first (m : List Int) : Int := match m.getLast? with
  | some x => x + 1
  | none => 0
def nextM (n : Int) (ps : List (Int × Int)) (m : List Int) : List (List Int) := ((rngZ (first m) n).filter fun s => isMarks n ps (m ++ [s])).map fun s => m ++ [s]
def allM (n : Int) (ps : List (Int × Int)) : Nat → List (List Int)
  | 0 => [[]]
  | k + 1 => (allM n ps k).flatMap (nextM n ps)
theorem allM_in {n : Int} {ps : List (Int × Int)} : ∀ {k : Nat} {m : List Int}, m ∈ allM n ps k → m.length = k ∧ ∀ s ∈ m, 0 ≤ s ∧ s < n
  | 0, m, h => by
    have : m = [] := by simpa [allM] using h
    subst this
    exact ⟨rfl, fun s hs => by simp at hs⟩
  | k + 1, m, h => by
    obtain ⟨m', h1, h2⟩ := List.mem_flatMap.mp h
    obtain ⟨s, h3, rfl⟩ := List.mem_map.mp h2
    obtain ⟨h4, h5⟩ := allM_in h1
    have h6 := (List.mem_filter.mp h3).2
    unfold isMarks at h6
    simp only [Bool.and_eq_true] at h6
    have h7 := List.all_eq_true.mp h6.1.2
    exact ⟨by simp [h4], fun x hx => of_decide_eq_true (h7 x hx)⟩
theorem first_nn {m : List Int} (h : ∀ s ∈ m, 0 ≤ s) : 0 ≤ first m := by
  unfold first
  cases e : m.getLast? with
  | none => exact Int.le_refl _
  | some x =>
    have := h x (List.mem_of_getLast? e)
    show 0 ≤ x + 1
    omega
theorem nextM_len {n : Int} {ps : List (Int × Int)} {m : List Int} (h : ∀ s ∈ m, 0 ≤ s) (hn : n ≤ 12) : (nextM n ps m).length ≤ 12 := by
  unfold nextM
  rw [List.length_map]
  refine Nat.le_trans (List.length_filter_le _ _) ?_
  rw [rngZ_len]
  have := first_nn h
  omega
theorem flat_len {α β : Type} {f : α → List β} {c : Nat} : ∀ {l : List α}, (∀ x ∈ l, (f x).length ≤ c) → (l.flatMap f).length ≤ l.length * c
  | [], _ => by simp
  | x :: l, h => by
    have h1 := h x List.mem_cons_self
    have h2 := flat_len (l := l) fun y hy => h y (List.mem_cons_of_mem _ hy)
    rw [List.flatMap_cons, List.length_append, List.length_cons, Nat.succ_mul]
    omega
theorem allM_len {n : Int} {ps : List (Int × Int)} (hn : n ≤ 12) : ∀ k, (allM n ps k).length ≤ 12 ^ k
  | 0 => by simp [allM]
  | k + 1 => by
    have h1 := allM_len (ps := ps) hn k
    have h2 := flat_len (f := nextM n ps) (c := 12) (l := allM n ps k) fun m hm => nextM_len (fun s hs => ((allM_in hm).2 s hs).1) hn
    show ((allM n ps k).flatMap (nextM n ps)).length ≤ _
    rw [Nat.pow_succ]
    exact Nat.le_trans h2 (Nat.mul_le_mul_right _ h1)
theorem opAdd_tupI (m : List Int) (s : Int) (h : m.length ≤ 1000) : opAdd (tupI m) (.tuple [.int s]) = .ok (tupI (m ++ [s])) := by
  rw [opAdd_tup _ _ (by simp; omega)]
  simp
theorem pow12 {k : Nat} (h : k ≤ 5) : 12 ^ k ≤ 248832 := by
  have : k = 0 ∨ k = 1 ∨ k = 2 ∨ k = 3 ∨ k = 4 ∨ k = 5 := by omega
  rcases this with rfl | rfl | rfl | rfl | rfl | rfl <;> decide
theorem take_flat {α β : Type} (f : α → List β) {l : List α} {i : Nat} {x : α} (h : l[i]? = some x) : (l.take (i + 1)).flatMap f = (l.take i).flatMap f ++ f x := by
  rw [List.take_add_one, h, List.flatMap_append]
  simp
theorem okWeb_n {n : Int} {ls : List (List Int)} (h : okWeb n ls = true) : 1 ≤ n ∧ n ≤ 12 := by
  unfold okWeb at h
  exact of_decide_eq_true (Bool.and_eq_true_iff.mp h).1
theorem take_len_le {α β : Type} (f : α → List β) (l : List α) (i : Nat) : ((l.take i).flatMap f).length ≤ (l.flatMap f).length := by
  conv => rhs; rw [← List.take_append_drop i l, List.flatMap_append, List.length_append]
  omega
/-! ### the law's sets -/
def nextS (n : Int) (m : List Int) : List (List Int) := ((rngZ 0 n).filter fun s => decide (m = []) || decide (first m ≤ s)).map fun s => m ++ [s]
def setsM (n : Int) : Nat → List (List Int)
  | 0 => [[]]
  | k + 1 => (setsM n k).flatMap (nextS n)
theorem nextS_len {n : Int} {m : List Int} (hn : n ≤ 12) : (nextS n m).length ≤ 12 := by
  unfold nextS
  rw [List.length_map]
  refine Nat.le_trans (List.length_filter_le _ _) ?_
  rw [rngZ_len]
  omega
theorem setsM_len {n : Int} (hn : n ≤ 12) : ∀ k, (setsM n k).length ≤ 12 ^ k
  | 0 => by simp [setsM]
  | k + 1 => by
    have h1 := setsM_len hn k
    have h2 := flat_len (f := nextS n) (c := 12) (l := setsM n k) fun m hm => nextS_len hn
    show ((setsM n k).flatMap (nextS n)).length ≤ _
    rw [Nat.pow_succ]
    exact Nat.le_trans h2 (Nat.mul_le_mul_right _ h1)
theorem setsM_in {n : Int} : ∀ {k : Nat} {m : List Int}, m ∈ setsM n k → m.length = k ∧ ∀ s ∈ m, 0 ≤ s ∧ s < n
  | 0, m, h => by
    have : m = [] := by simpa [setsM] using h
    subst this
    exact ⟨rfl, fun s hs => by simp at hs⟩
  | k + 1, m, h => by
    obtain ⟨m', h1, h2⟩ := List.mem_flatMap.mp h
    obtain ⟨s, h3, rfl⟩ := List.mem_map.mp h2
    obtain ⟨h4, h5⟩ := setsM_in h1
    have h6 := rngZ_mem.mp (List.mem_filter.mp h3).1
    refine ⟨by simp [h4], fun x hx => ?_⟩
    rcases List.mem_append.mp hx with h | h
    · exact h5 x h
    · rw [List.mem_singleton] at h
      subst h; exact h6
/-! MsM3: all_marks finds the independent sets; the numbers; the drawn web. -/
def Up (m : List Int) : Prop := m.Pairwise fun a b => a < b
theorem up_fix {m : List Int} (h : Up m) : upI m = m :=
  pw_unique (lt := fun a b => a < b) (fun a b h1 h2 => by omega) (upI_up m) h fun x => upI_mem
theorem lt_first {m : List Int} (h : Up m) {x : Int} (hx : x ∈ m) : x < first m := by
  unfold first
  rcases List.eq_nil_or_concat m with rfl | ⟨r, y, rfl⟩
  · simp at hx
  · simp only [List.concat_eq_append, List.getLast?_append, List.getLast?_singleton, Option.some_or] at hx h ⊢
    have h' := List.pairwise_append.mp h
    rcases List.mem_append.mp hx with q | q
    · have := h'.2.2 x q y (by simp)
      omega
    · have : x = y := by simpa using q
      omega
theorem up_snoc {m : List Int} {s : Int} (h : Up m) (hs : first m ≤ s) : Up (m ++ [s]) := by
  refine List.pairwise_append.mpr ⟨h, List.pairwise_singleton _ _, fun a ha b hb => ?_⟩
  have : b = s := by simpa using hb
  have := lt_first h ha
  omega
theorem rngZ_up (lo n : Int) : Up (rngZ lo n) := by
  unfold rngZ Up
  rw [List.pairwise_map]
  exact List.pairwise_lt_range.imp fun h => by omega
theorem rngZ_filter {f n : Int} (h : 0 ≤ f) : (rngZ 0 n).filter (fun s => decide (f ≤ s)) = rngZ f n :=
  pw_unique (lt := fun a b => a < b) (fun a b h1 h2 => by omega) ((rngZ_up 0 n).filter _) (rngZ_up f n) fun x => by
    rw [List.mem_filter, rngZ_mem, rngZ_mem, decide_eq_true_eq]
    omega
theorem setsM_up {n : Int} : ∀ {k : Nat} {m : List Int}, m ∈ setsM n k → Up m
  | 0, m, h => by
    have : m = [] := by simpa [setsM] using h
    subst this
    exact List.Pairwise.nil
  | k + 1, m, h => by
    obtain ⟨m', h1, h2⟩ := List.mem_flatMap.mp h
    obtain ⟨s, h3, rfl⟩ := List.mem_map.mp h2
    obtain ⟨h4, h5⟩ := List.mem_filter.mp h3
    refine up_snoc (setsM_up h1) ?_
    rcases Bool.or_eq_true_iff.mp h5 with q | q
    · have : m' = [] := of_decide_eq_true q
      subst this
      exact (rngZ_mem.mp h4).1
    · exact of_decide_eq_true q
theorem marks_up {n : Int} {ps : List (Int × Int)} {m : List Int} (h : Up m) (hr : ∀ s ∈ m, 0 ≤ s ∧ s < n) : isMarks n ps m = indep ps m := by
  unfold isMarks
  rw [up_fix h, decide_eq_true rfl, Bool.true_and]
  have : (m.all fun s => decide (0 ≤ s ∧ s < n)) = true := List.all_eq_true.mpr fun s hs => decide_eq_true (hr s hs)
  rw [this, Bool.true_and]
theorem indep_more {ps : List (Int × Int)} {m m' : List Int} (h : indep ps m = false) : indep ps (m ++ m') = false := by
  unfold indep at h ⊢
  rw [Bool.not_eq_false'] at h ⊢
  obtain ⟨p, hp, q⟩ := List.any_eq_true.mp h
  rw [Bool.and_eq_true, decide_eq_true_eq, decide_eq_true_eq] at q
  exact List.any_eq_true.mpr ⟨p, hp, by rw [Bool.and_eq_true, decide_eq_true_eq, decide_eq_true_eq]; exact ⟨List.mem_append_left _ q.1, List.mem_append_left _ q.2⟩⟩
theorem next_eq {n : Int} {ps : List (Int × Int)} {m : List Int} (h : Up m) (hr : ∀ s ∈ m, 0 ≤ s ∧ s < n) : (nextS n m).filter (indep ps) = nextM n ps m := by
  have hf : 0 ≤ first m := first_nn fun s hs => (hr s hs).1
  have e1 : (rngZ 0 n).filter (fun s => decide (m = []) || decide (first m ≤ s)) = rngZ (first m) n := by
    by_cases q : m = []
    · subst q
      exact List.filter_eq_self.mpr fun s _ => by simp
    · rw [← rngZ_filter hf]
      congr 1
      funext s
      rw [decide_eq_false q, Bool.false_or]
  unfold nextS nextM
  rw [e1, List.filter_map]
  congr 1
  refine List.filter_congr fun s hs => ?_
  have hs' := rngZ_mem.mp hs
  show indep ps (m ++ [s]) = _
  rw [marks_up (up_snoc h hs'.1) fun x hx => ?_]
  rcases List.mem_append.mp hx with q | q
  · exact hr x q
  · have : x = s := by simpa using q
    subst this
    omega
theorem allM_eq (n : Int) (ps : List (Int × Int)) : ∀ k, allM n ps k = (setsM n k).filter (indep ps)
  | 0 => by simp [allM, setsM, indep]
  | k + 1 => by
    show (allM n ps k).flatMap (nextM n ps) = ((setsM n k).flatMap (nextS n)).filter (indep ps)
    rw [allM_eq n ps k]
    have : ∀ l : List (List Int), (∀ m ∈ l, Up m ∧ ∀ s ∈ m, 0 ≤ s ∧ s < n) → (l.filter (indep ps)).flatMap (nextM n ps) = (l.flatMap (nextS n)).filter (indep ps) := by
      intro l
      induction l with
      | nil => intro _; rfl
      | cons m l ih =>
        intro h
        obtain ⟨h1, h2⟩ := h m List.mem_cons_self
        have ih' := ih fun x hx => h x (List.mem_cons_of_mem _ hx)
        rw [List.flatMap_cons, List.filter_append, ← ih', next_eq h1 h2, List.filter_cons]
        cases e : indep ps m with
        | true => rw [if_pos rfl, List.flatMap_cons]
        | false =>
          rw [if_neg Bool.false_ne_true]
          have : nextM n ps m = [] := by
            rw [← next_eq h1 h2]
            refine List.filter_eq_nil_iff.mpr fun x hx => ?_
            obtain ⟨s, _, rfl⟩ := List.mem_map.mp hx
            rw [indep_more e]
            exact Bool.false_ne_true
          rw [this, List.nil_append]
    exact this _ fun m hm => ⟨setsM_up hm, (setsM_in hm).2⟩

/-! ### the numbers -/
def cellZ (ns : List Int) (k : Int) : Int := if ns = [] then 0 else ns.getD (k % (ns.length : Int)).toNat 0
def mixZ (ns : List Int) (k : Int) : Int :=
  let x := (cellZ ns k + 104729 * (k + 1)) % 4294967291
  let y := x * 48271 % 4294967279
  (y / 64 * 69621 + y) % 4294967231
theorem law_cell_den (ns : List Int) (k : Int) : d__law_cell [.sc ns, .fz (.int k)] = .ok (.int (cellZ ns k)) := by
  refine wp_run [.sc ns, .fz (.int k)] ?_
  refine wp_seq (wp_if (b := !ns.isEmpty) rfl (fun hb => ?_) (fun hb => ?_))
  · have hne : ns ≠ [] := by
      rintro rfl
      cases hb
    have hl : 0 < (ns.length : Int) := by
      have := List.length_pos_iff.mpr hne
      omega
    refine wp_ret (d := .int (cellZ ns k)) ?_ rfl
    simp [opMod_int _ _ hl]
    have h0 : 0 ≤ k % (ns.length : Int) := Int.emod_nonneg _ (by omega)
    have h1 : k % (ns.length : Int) < ns.length := Int.emod_lt_of_pos _ hl
    rw [atD_pos _ _ h0, List.getElem?_eq_getElem (by omega)]
    unfold cellZ
    rw [if_neg hne, List.getD_eq_getElem?_getD, List.getElem?_eq_getElem (by omega)]
    rfl
  · refine wp_nx (wp_ret (d := .int (cellZ ns k)) ?_ rfl)
    have : ns = [] := by
      cases ns with
      | nil => rfl
      | cons _ _ => cases hb
    subst this
    rfl
theorem law_mix_den (ns : List Int) (k : Int) : d__law_mix [.sc ns, .fz (.int k)] = .ok (.int (mixZ ns k)) := by
  refine wp_run [.sc ns, .fz (.int k), .nil] ?_
  refine wp_seq (wp_set (d := .int ((cellZ ns k + 104729 * (k + 1)) % 4294967291)) ?_ ?_)
  · simp [law_cell_den]
    rw [opMul_int _ _ (.inl (by decide))]
    simp
    exact opMod_int _ _ (by decide)
  refine wp_seq (wp_set (d := .int ((cellZ ns k + 104729 * (k + 1)) % 4294967291 * 48271 % 4294967279)) ?_ ?_)
  · simp
    rw [opMul_int _ _ (.inr (by decide))]
    simp
    exact opMod_int _ _ (by decide)
  refine wp_ret (d := .int (mixZ ns k)) ?_ rfl
  simp
  rw [opDiv_int _ _ (by decide)]
  simp
  rw [opMul_int _ _ (.inr (by decide))]
  simp
  exact opMod_int _ _ (by decide)
theorem mixZ_nn (ns : List Int) (k : Int) : 0 ≤ mixZ ns k := Int.emod_nonneg _ (by decide)

/-! ### the drawn web -/
def tri : Nat → Nat
  | 0 => 0
  | i + 1 => tri i + (i + 1)
theorem tri_mono : ∀ {i j : Nat}, i ≤ j → tri i ≤ tri j
  | i, 0, h => by
    have : i = 0 := by omega
    subst this; exact Nat.le_refl _
  | i, j + 1, h => by
    rcases Nat.lt_or_ge i (j + 1) with q | q
    · have := tri_mono (show i ≤ j by omega)
      show tri i ≤ tri j + (j + 1)
      omega
    · have : i = j + 1 := by omega
      subst this; exact Nat.le_refl _
def InWeb (n : Int) (qs : List (Int × Int)) : Prop := ∀ q ∈ qs, 0 ≤ q.1 ∧ q.1 < q.2 ∧ q.2 < n
/-- a web as the laws draw it -/
def GoodWeb (n m : Int) (ps : List (Int × Int)) : Prop := 1 ≤ n ∧ n ≤ m ∧ InWeb n ps ∧ ps.Pairwise ltP ∧ ps.length < 60
theorem insP_len (x : Int × Int) : ∀ l, (insP x l).length ≤ l.length + 1
  | [] => by simp [insP]
  | y :: r => by
    unfold insP
    split
    · simp
    · split
      · simp
      · have := insP_len x r
        simp only [List.length_cons]
        omega
theorem upP_len : ∀ l : List (Int × Int), (upP l).length ≤ l.length
  | [] => Nat.le_refl _
  | x :: l => by
    have h1 := insP_len x (upP l)
    have h2 := upP_len l
    show (insP x (upP l)).length ≤ l.length + 1
    omega
theorem pairs_map : ∀ ps : List (Int × Int), pairsOf (ps.map prD) = some ps
  | [] => rfl
  | p :: ps => by
    unfold pairsOf
    rw [List.map_cons]
    simp only [pairs_map ps]
    rfl
theorem webP_eq (n : Int) (ps : List (Int × Int)) : webP n ps = .tuple [.int n, .list (ps.map prD)] := by
  unfold webP webL
  rw [List.map_map]
  rfl
theorem ssetP_ok {ps : List (Int × Int)} (hl : ps.length < 60) (h : ∀ p ∈ ps, 0 ≤ p.1 ∧ p.1 < 64 ∧ 0 ≤ p.2 ∧ p.2 < 64) : ssetP (.list (ps.map prD)) = .ok ((upP ps).map prD) := by
  show (ofO (pairsOf (ps.map prD))).bind _ = _
  rw [pairs_map, ofO_some, Rs.bind_ok, if_pos ⟨hl, List.all_eq_true.mpr fun p hp => decide_eq_true (h p hp)⟩]
theorem law_web_den (ns : List Int) (k : Int) (m : Int) (m1 : 1 ≤ m) (m2 : m ≤ 11) : ∃ n ps, d__law_web [.sc ns, .fz (.int k), .fz (.int m)] = .ok (webP n ps) ∧ GoodWeb n m ps := by
  refine run_ex (Q := fun r => ∃ n ps, r = .ok (webP n ps) ∧ GoodWeb n m ps) [.sc ns, .fz (.int k), .fz (.int m), .nil, .nil, .nil, .nil, .nil, .nil, .nil] ?_
  have hx0 : 0 ≤ mixZ ns k % m := Int.emod_nonneg _ (by omega)
  have hx1 : mixZ ns k % m < m := Int.emod_lt_of_pos _ (by omega)
  generalize hn : 1 + mixZ ns k % m = n
  have n1 : 1 ≤ n := by omega
  have n2 : n ≤ m := by omega
  refine wp_seq (wp_set (d := .int n) ?_ ?_)
  · simp [law_mix_den]
    rw [opMod_int _ _ (by omega)]
    simp [hn]
  generalize hw : mixZ ns (k + 1) % 5 = wy
  refine wp_seq (wp_set (d := .int wy) ?_ ?_)
  · simp [law_mix_den]
    rw [opMod_int _ _ (by omega), hw]
  refine wp_seq (wp_own (ds := []) rfl ?_)
  refine wp_seq (wp_for (ds := rngD 1 (n - 1).toNat) ?_ (fun i ρ => ∃ qs s6 s7 s8 s9, ρ = [.sc ns, .fz (.int k), .fz (.int m), .fz (.int n), .fz (.int wy), .ow (qs.map prD), s6, s7, s8, s9] ∧ InWeb n qs ∧ qs.length ≤ tri i) ⟨[], _, _, _, _, rfl, fun q hq => by simp at hq, Nat.le_refl _⟩ ?_ ?_)
  · simp
    have := rng2_ok 1 n (by omega) (by omega) (by omega) (by omega)
    simpa using this
  · rintro i d ρ hd ⟨qs, s6, s7, s8, s9, rfl, hq, hql⟩
    obtain ⟨hi, rfl⟩ := rngD_at hd
    refine ⟨_, rfl, ?_⟩
    refine wp_for (ds := rngD 0 (1 + i)) ?_ (fun j ρ => ∃ qs s7 s8 s9, ρ = [.sc ns, .fz (.int k), .fz (.int m), .fz (.int n), .fz (.int wy), .ow (qs.map prD), .fz (.int (1 + (i : Int))), s7, s8, s9] ∧ InWeb n qs ∧ qs.length ≤ tri i + j) ⟨qs, _, _, _, rfl, hq, hql⟩ ?_ ?_
    · simp
      rw [rng1_ok _ (by omega) (by omega)]
      congr 2
    · rintro j d ρ hd ⟨qs, t7, t8, t9, rfl, hq, hql⟩
      obtain ⟨hj, rfl⟩ := rngD_at hd
      refine ⟨_, rfl, ?_⟩
      simp only [Int.zero_add]
      refine wp_seq (wp_set (d := .int (mixZ ns (k + 2 + 9 * (j : Int) + (1 + (i : Int))) / 8)) ?_ ?_)
      · simp
        rw [opMul_int _ _ (.inl (by decide))]
        simp [law_mix_den]
        exact opDiv_int _ _ (by decide)
      refine wp_seq (wp_set (d := .bool (decide (wy < 2) && decide ((j : Int) = mixZ ns (k + 90 + (1 + (i : Int))) / 8 % (1 + (i : Int))))) ?_ ?_)
      · simp
        by_cases q : wy < 2
        · simp [q, law_mix_den]
          rw [opDiv_int _ _ (by decide)]
          simp
          rw [opMod_int _ _ (by omega)]
          simp
        · simp [q]
      refine wp_if (b := (decide (wy < 2) && decide ((j : Int) = mixZ ns (k + 90 + (1 + (i : Int))) / 8 % (1 + (i : Int)))) || ((decide (wy = 2) && decide ((j : Int) + 1 = 1 + (i : Int))) || (decide (2 < wy) && decide (mixZ ns (k + 2 + 9 * (j : Int) + (1 + (i : Int))) / 8 % 6 < wy - 1)))) ?_ (fun _ => ?_) (fun _ => ?_)
      · generalize (decide (wy < 2) && decide ((j : Int) = mixZ ns (k + 90 + (1 + (i : Int))) / 8 % (1 + (i : Int)))) = b1
        simp
        cases b1 with
        | true => rfl
        | false =>
          by_cases q1 : wy = 2
          · subst q1
            simp
            by_cases q2 : (j : Int) + 1 = 1 + (i : Int)
            · simp [q2]
            · simp [q2]
          · by_cases q2 : 2 < wy
            · simp [q1, q2]
              rw [opMod_int _ _ (by decide)]
              simp
            · simp [q1, q2]
      · refine wp_app (d := prD ((j : Int), 1 + (i : Int))) rfl rfl (by rw [List.length_map]; have := tri_mono (show i ≤ 10 by omega); have : tri 10 = 55 := rfl; omega) ?_
        refine ⟨qs ++ [((j : Int), 1 + (i : Int))], _, _, _, by rw [List.map_append]; rfl, fun q hq' => ?_, by rw [List.length_append, List.length_singleton]; omega⟩
        rcases List.mem_append.mp hq' with h | h
        · exact hq q h
        · have : q = ((j : Int), 1 + (i : Int)) := by simpa using h
          subst this
          refine ⟨by omega, ?_, ?_⟩ <;> simp only <;> omega
      · exact wp_nx ⟨qs, _, _, _, rfl, hq, by omega⟩
    · rintro ρ ⟨qs, t7, t8, t9, rfl, hq, hql⟩
      rw [rngM_len] at hql
      exact ⟨qs, _, _, _, _, rfl, hq, by show _ ≤ tri i + (i + 1); omega⟩
  · rintro ρ ⟨qs, s6, s7, s8, s9, rfl, hq, hql⟩
    rw [rngM_len] at hql
    have ht : tri (n - 1).toNat ≤ 55 := tri_mono (show (n - 1).toNat ≤ 10 by omega)
    -- one more line, perhaps
    have fin : ∀ qs : List (Int × Int), InWeb n qs → qs.length < 60 → W (sSeq (sFrz 5) (sRet (dTup (lCons (dVar 3) (lCons (dLst (lSSP (dVar 5))) lNil)))) [.sc ns, .fz (.int k), .fz (.int m), .fz (.int n), .fz (.int wy), .ow (qs.map prD), s6, s7, s8, s9]) (fun _ => ∃ n ps, Rs.ok PyData.none = .ok (webP n ps) ∧ GoodWeb n m ps) (fun o => ∃ n ps, ouR o = .ok (webP n ps) ∧ GoodWeb n m ps) := fun qs hq hql => by
      refine wp_seq (wp_frz rfl ?_)
      refine wp_ret (d := webP n (upP qs)) ?_ ⟨n, upP qs, rfl, n1, n2, fun q h => hq q (upP_mem.mp h), upP_up qs, Nat.lt_of_le_of_lt (upP_len qs) hql⟩
      simp
      rw [ssetP_ok hql fun p hp => by have := hq p hp; omega]
      simp [webP_eq]
    refine wp_seq (wp_if (b := decide (wy = 2) && (decide (2 < n) && decide (mixZ ns (k + 99) % 2 = 0))) ?_ (fun hb => ?_) (fun _ => ?_))
    · simp
      by_cases q1 : wy = 2
      · by_cases q2 : 2 < n
        · simp [q1, q2, law_mix_den]
          rw [opMod_int _ _ (by decide)]
          simp
        · simp [q1, q2]
      · simp [q1]
    · refine wp_app (d := prD (0, n - 1)) rfl rfl (by rw [List.length_map]; omega) ?_
      have hb2 : 2 < n := by
        rw [Bool.and_eq_true, Bool.and_eq_true, decide_eq_true_eq, decide_eq_true_eq] at hb
        exact hb.2.1
      have e : (qs.map prD ++ [prD (0, n - 1)]) = (qs ++ [(0, n - 1)]).map prD := by rw [List.map_append]; rfl
      rw [e]
      refine fin (qs ++ [(0, n - 1)]) (fun q hq' => ?_) (by rw [List.length_append, List.length_singleton]; omega)
      rcases List.mem_append.mp hq' with h | h
      · exact hq q h
      · have : q = (0, n - 1) := by simpa using h
        subst this
        refine ⟨Int.le_refl _, ?_, ?_⟩ <;> simp only <;> omega
    · exact wp_nx (fin qs hq (by omega))
/-! MsM4: refusals, spoilt webs, drawn marks. -/
theorem lex2 (a b c d : Int) : lexLt [a, b] [c, d] = decide (a < c ∨ a = c ∧ b < d) := by
  unfold lexLt
  by_cases h : a = c
  · subst h
    rw [if_pos rfl]
    unfold lexLt
    by_cases q : b = d
    · subst q
      rw [if_pos rfl]
      simp [lexLt]
    · rw [if_neg q]
      simp
  · rw [if_neg h]
    simp [h]
theorem good_ok {n m : Int} {ps : List (Int × Int)} (h : GoodWeb n m ps) (hm : m ≤ 12) : okWeb n (ps.map pl) = true := by
  obtain ⟨h1, h2, h3, h4, h5⟩ := h
  unfold okWeb
  rw [Bool.and_eq_true, decide_eq_true_eq]
  refine ⟨⟨h1, by omega⟩, all_range.mpr fun k hk => ?_⟩
  rw [List.length_map] at hk
  have ek : (ps.map pl).getD k [] = pl ps[k] := by rw [List.getD_eq_getElem?_getD, List.getElem?_map, List.getElem?_eq_getElem hk]; rfl
  rw [Bool.and_eq_true]
  constructor
  · rw [ek]
    have := h3 ps[k] (List.getElem_mem hk)
    unfold okLine pl
    simp only [decide_eq_true_eq]
    omega
  · unfold okStep
    cases k with
    | zero => rfl
    | succ k =>
      have ek2 : (ps.map pl).getD k [] = pl ps[k] := by rw [List.getD_eq_getElem?_getD, List.getElem?_map, List.getElem?_eq_getElem (by omega)]; rfl
      rw [ek, show k + 1 - 1 = k by omega, ek2]
      have := List.pairwise_iff_getElem.mp h4 k (k + 1) (by omega) hk (by omega)
      unfold pl
      rw [lex2, decide_eq_true this]
      simp
theorem look_marks_den (n : Int) (ps : List (Int × Int)) (ms : List Int) (hok : okWeb n (ps.map pl) = true) (hl : ps.length ≤ 1000) (hm : ms.length < 60) : d_look_marks [.fz (webP n ps), .fz (tupI ms)] = if isMarks n ps ms = true then .ok .none else .er .marks := by
  refine wp_run [.fz (webP n ps), .fz (tupI ms)] ?_
  refine wp_seq (wp_expr (d := .none) ?_ ?_)
  · simp [look_web_den n (ps.map pl) (by simpa using hl), hok]
  refine wp_if (b := !isMarks n ps ms) ?_ (fun hb => ?_) (fun hb => ?_)
  · simp [is_marks_den n ps ms hl hm]
  · have : isMarks n ps ms = false := by simpa using hb
    rw [this]
    exact wp_raise rfl
  · have : isMarks n ps ms = true := by simpa using hb
    rw [this]
    exact wp_nx rfl
/-! a spoilt web is refused by each -/
section
variable {n : Int} {ls : List (List Int)} (hok : okWeb n ls = false) (hl : ls.length ≤ 1000)
include hok hl
theorem look_web_bad : d_look_web [.fz (webL n ls)] = .er .web := by
  rw [look_web_den n ls hl, hok]
  rfl
theorem look_marks_bad (t : PyData) : d_look_marks [.fz (webL n ls), .fz t] = .er .web := by
  refine wp_run [.fz (webL n ls), .fz t] ?_
  refine wp_seq (wp_expr_er (k := .web) ?_ rfl)
  simp [look_web_bad hok hl]
theorem is_tree_bad : d_is_tree [.fz (webL n ls)] = .er .web := by
  refine wp_run [.fz (webL n ls)] ?_
  refine wp_seq (wp_expr_er (k := .web) ?_ rfl)
  simp [look_web_bad hok hl]
end
theorem refusal_den (k : XK) : d__law_refusal [.ex k] = .ok (.str (kName k)) := by
  cases k <;> rfl
/-! MsM5: spoilt webs, drawn marks. -/
theorem bad_line {n : Int} {ls : List (List Int)} {k : Nat} (hk : k < ls.length) (h : okLine n (ls.getD k []) = false) : okWeb n ls = false := by
  unfold okWeb
  rw [Bool.and_eq_false_iff]
  refine .inr (Bool.eq_false_iff.mpr fun q => ?_)
  have := all_range.mp q k hk
  rw [h] at this
  cases this
theorem bad_step {n : Int} {ls : List (List Int)} {k : Nat} (hk : k < ls.length) (h : okStep ls k = false) : okWeb n ls = false := by
  unfold okWeb
  rw [Bool.and_eq_false_iff]
  refine .inr (Bool.eq_false_iff.mpr fun q => ?_)
  have := all_range.mp q k hk
  rw [h, Bool.and_false] at this
  cases this
theorem bad_n {n : Int} {ls : List (List Int)} (h : ¬ (1 ≤ n ∧ n ≤ 12)) : okWeb n ls = false := by
  unfold okWeb
  rw [decide_eq_false h]
  rfl
theorem sIx_nat (n d i : Nat) (h : i ≤ n) : sIx n d (some (i : Int)) = i := by
  show (if (i : Int) < 0 then ((i : Int) + (n : Int)).toNat else min (i : Int).toNat n) = i
  rw [if_neg (by omega), Int.toNat_natCast, Nat.min_eq_left h]
theorem cut_to {α : Type} (xs : List α) (i : Nat) (h : i ≤ xs.length) : cutD xs none (some (i : Int)) = xs.take i := by
  unfold cutD
  rw [sIx_nat _ _ _ h]
  show (xs.drop 0).take (i - 0) = _
  simp
theorem cut_from {α : Type} (xs : List α) (i : Nat) (h : i ≤ xs.length) : cutD xs (some (i : Int)) none = xs.drop i := by
  unfold cutD
  rw [sIx_nat _ _ _ h]
  show (xs.drop i).take (xs.length - i) = _
  rw [List.take_of_length_le (by simp)]
theorem cut_last {α : Type} (xs : List α) : cutD xs (some (-1)) none = xs.drop (xs.length - 1) := by
  unfold cutD
  have : sIx xs.length 0 (some (-1)) = xs.length - 1 := by
    show (if (-1 : Int) < 0 then ((-1 : Int) + (xs.length : Int)).toNat else min (-1 : Int).toNat xs.length) = _
    rw [if_pos (by decide)]
    omega
  rw [this]
  show (xs.drop (xs.length - 1)).take (xs.length - (xs.length - 1)) = _
  rw [List.take_of_length_le (by simp)]
theorem at5 {α : Type} {a b c d e : α} {P : α → Prop} {i : Int} (h0 : 0 ≤ i) (h1 : i < 5) (ha : P a) (hb : P b) (hc : P c) (hd : P d) (he : P e) : ∃ x, atD [a, b, c, d, e] i = some x ∧ P x := by
  have : i = 0 ∨ i = 1 ∨ i = 2 ∨ i = 3 ∨ i = 4 := by omega
  rcases this with rfl | rfl | rfl | rfl | rfl
  · exact ⟨a, rfl, ha⟩
  · exact ⟨b, rfl, hb⟩
  · exact ⟨c, rfl, hc⟩
  · exact ⟨d, rfl, hd⟩
  · exact ⟨e, rfl, he⟩
theorem at4 {α : Type} {a b c d : α} {P : α → Prop} {i : Int} (h0 : 0 ≤ i) (h1 : i < 4) (ha : P a) (hb : P b) (hc : P c) (hd : P d) : ∃ x, atD [a, b, c, d] i = some x ∧ P x := by
  have : i = 0 ∨ i = 1 ∨ i = 2 ∨ i = 3 := by omega
  rcases this with rfl | rfl | rfl | rfl
  · exact ⟨a, rfl, ha⟩
  · exact ⟨b, rfl, hb⟩
  · exact ⟨c, rfl, hc⟩
  · exact ⟨d, rfl, hd⟩
theorem at3 {α : Type} {a b c : α} {P : α → Prop} {i : Int} (h0 : 0 ≤ i) (h1 : i < 3) (ha : P a) (hb : P b) (hc : P c) : ∃ x, atD [a, b, c] i = some x ∧ P x := by
  have : i = 0 ∨ i = 1 ∨ i = 2 := by omega
  rcases this with rfl | rfl | rfl
  · exact ⟨a, rfl, ha⟩
  · exact ⟨b, rfl, hb⟩
  · exact ⟨c, rfl, hc⟩
/-! MsM6: drawn marks. -/
theorem sortD_ints {ms : List Int} (hl : ms.length ≤ 1000000) : sortD (ms.map .int) = .ok ((sortZ ms).map .int) := by
  unfold sortD
  have ok : sortOk (ms.map .int) = true := by
    unfold sortOk
    simp only [Bool.and_eq_true, Bool.or_eq_true]
    refine ⟨⟨?_, .inr ?_⟩, ?_⟩
    · refine List.all_eq_true.mpr fun d hd => List.all_eq_true.mpr fun d' hd' => ?_
      obtain ⟨i, _, rfl⟩ := List.mem_map.mp hd
      obtain ⟨j, _, rfl⟩ := List.mem_map.mp hd'
      rfl
    · refine List.all_eq_true.mpr fun d hd => ?_
      obtain ⟨i, _, rfl⟩ := List.mem_map.mp hd
      rfl
    · refine List.all_eq_true.mpr fun d hd => ?_
      obtain ⟨i, _, rfl⟩ := List.mem_map.mp hd
      rfl
  rw [if_pos ⟨by rw [List.length_map]; exact hl, ok⟩]
  congr 1
  unfold sortZ
  refine (List.map_mergeSort fun a _ b _ => ?_).symm
  have := congrFun (congrFun (PySem.W.dataLe_int (fun b : Int => b)) a) b
  exact this.symm
theorem sortZ_perm (ms : List Int) : (sortZ ms).Perm ms := List.mergeSort_perm _ _
theorem sortZ_le (ms : List Int) : (sortZ ms).Pairwise fun a b => a ≤ b := by
  have := List.pairwise_mergeSort (le := fun a b : Int => decide (a ≤ b)) (fun a b c h1 h2 => by simp at *; omega) (fun a b => by simp; omega) ms
  exact this.imp fun h => of_decide_eq_true h
theorem sortZ_up {ms : List Int} (h : ms.Nodup) : Up (sortZ ms) := by
  have hn : (sortZ ms).Nodup := (sortZ_perm ms).nodup_iff.mpr h
  exact ((sortZ_le ms).and (List.nodup_iff_pairwise_ne.mp hn)).imp fun ⟨h1, h2⟩ => by omega
theorem Up.nodup {m : List Int} (h : Up m) : m.Nodup := List.nodup_iff_pairwise_ne.mpr (h.imp fun q => by omega)
theorem indep_mem {ps : List (Int × Int)} {m m' : List Int} (h : ∀ x, x ∈ m ↔ x ∈ m') : indep ps m = indep ps m' := by
  unfold indep
  congr 2
  funext p
  rw [decide_eq_decide.mpr (h p.1), decide_eq_decide.mpr (h p.2)]
/-- marks that may stand on the web -/
def GoodMarks (n : Int) (ps : List (Int × Int)) (ms : List Int) : Prop := Up ms ∧ (∀ s ∈ ms, 0 ≤ s ∧ s < n) ∧ indep ps ms = true
theorem law_marks_den {n m : Int} {ps : List (Int × Int)} (h : GoodWeb n m ps) (hm : m ≤ 11) (ns : List Int) (k : Int) (z : Nat) (hz : z ≤ 20) : ∃ ms, d__law_marks [.sc ns, .fz (.int k), .fz (webP n ps), .fz (.int z)] = .ok (tupI ms) ∧ GoodMarks n ps ms ∧ ms.length ≤ z := by
  refine run_ex (Q := fun r => ∃ ms, r = .ok (tupI ms) ∧ GoodMarks n ps ms ∧ ms.length ≤ z) [.sc ns, .fz (.int k), .fz (webP n ps), .fz (.int z), .nil, .nil, .nil, .nil] ?_
  obtain ⟨g1, g2, g3, g4, g5⟩ := h
  refine wp_seq (wp_set (d := tupI []) rfl ?_)
  have hx0 : 0 ≤ mixZ ns k % ((z : Int) + 1) := Int.emod_nonneg _ (by omega)
  have hx1 : mixZ ns k % ((z : Int) + 1) < (z : Int) + 1 := Int.emod_lt_of_pos _ (by omega)
  obtain ⟨c, hc⟩ := Int.eq_ofNat_of_zero_le hx0
  refine wp_seq (wp_for (ds := rngD 0 c) ?_ (fun i ρ => ∃ ms s5 s6 s7, ρ = [.sc ns, .fz (.int k), .fz (webP n ps), .fz (.int z), .fz (tupI ms), s5, s6, s7] ∧ GoodMarks n ps ms ∧ ms.length ≤ i) ⟨[], _, _, _, rfl, ⟨List.Pairwise.nil, fun s hs => by simp at hs, by simp [indep]⟩, Nat.le_refl _⟩ ?_ ?_)
  · simp [law_mix_den, opMod_int _ _ (show (0 : Int) < (z : Int) + 1 by omega), hc]
    exact rng1_nat c (by omega)
  · rintro i d ρ hd ⟨ms, s5, s6, s7, rfl, ⟨u1, u2, u3⟩, hl⟩
    obtain ⟨hi, rfl⟩ := rngD_at hd
    refine ⟨_, rfl, ?_⟩
    simp only [Int.zero_add]
    generalize hfree : ((rngZ 0 n).filter fun s => !decide (s ∈ ms) && indep ps (ms ++ [s])) = free
    have ec : ∀ ρw : Env, ρw = [.sc ns, .fz (.int k), .fz (webP n ps), .fz (.int z), .fz (tupI ms), .fz (.int i), s6, s7] → lComp (iR1 (dIx (bVar 2) (dC (.int 0)))) (gN 7) (tAnd (tNin (dVar 7) (bVar 4)) (tTru (bOf (dCall d__law_is_marks (saCons (bVar 2) (saCons (bOf (dBin opAdd (dVar 4) (dTup (lCons (dVar 7) lNil)))) saNil)))))) (dVar 7) [7] ρw = .ok (free.map PyData.int) := by
      rintro _ rfl
      rw [← hfree]
      refine lcomp_t (f := PyData.int) ?_ rfl ?_ fun s hs => ⟨_, rfl, ?_, fun _ => rfl⟩
      · rw [← rng0_map]
        simp [webL]
        exact rng1_ok _ (by omega) (by omega)
      · rw [rngZ_len]; omega
      · simp [opAdd_tupI ms s (by omega), law_is_marks_den n ps (ms ++ [s]) (by omega), wipeE]
        by_cases q : s ∈ ms <;> simp [q]
    refine wp_seq (wp_set (d := .list (free.map PyData.int)) ?_ ?_)
    · rw [dLst_e, ec ([Sl.sc ns, .fz (.int k), .fz (webP n ps), .fz (.int z), .fz (tupI ms), s5, s6, s7].set 5 (.fz (.int i))) rfl]
      rfl
    refine wp_if (b := !decide (free = [])) ?_ (fun hb => ?_) (fun _ => wp_nx ⟨ms, _, _, _, rfl, ⟨u1, u2, u3⟩, by omega⟩)
    · have := cNe_lst free []
      simp only [List.map_nil] at this
      simp [this]
    · have hne : free ≠ [] := by
        intro q
        rw [q] at hb
        cases hb
      have hfl : 0 < (free.length : Int) := by
        have := List.length_pos_iff.mpr hne
        omega
      have hj0 : 0 ≤ mixZ ns (k + 1 + (i : Int)) / 4 % (free.length : Int) := Int.emod_nonneg _ (by omega)
      have hj1 : mixZ ns (k + 1 + (i : Int)) / 4 % (free.length : Int) < free.length := Int.emod_lt_of_pos _ hfl
      obtain ⟨j, hj⟩ := Int.eq_ofNat_of_zero_le hj0
      have hjl : j < free.length := by omega
      have hx : free[j] ∈ free := List.getElem_mem hjl
      have hget : free[j]? = some free[j] := List.getElem?_eq_getElem hjl
      generalize free[j] = x at *
      rw [← hfree] at hx
      obtain ⟨f1, f2⟩ := List.mem_filter.mp hx
      rw [Bool.and_eq_true, Bool.not_eq_true', decide_eq_false_iff_not] at f2
      have fx := rngZ_mem.mp f1
      refine wp_set (d := tupI (sortZ (ms ++ [x]))) ?_ ⟨sortZ (ms ++ [x]), _, _, _, rfl, ⟨?_, fun s hs => ?_, ?_⟩, ?_⟩
      · have o1 : opAdd (tupI ms) (.tuple [.int x]) = .ok (tupI (ms ++ [x])) := opAdd_tupI ms x (by omega)
        have o2 : sortS (.fz (tupI (ms ++ [x]))) = .ok ((sortZ (ms ++ [x])).map .int) := sortD_ints (by simp; omega)
        have e1 : dIx (bVar 6) (dBin opMod (dBin opDiv (dCall d__law_mix (saCons (bVar 0) (saCons (bOf (dBin opAdd (dBin opAdd (dVar 1) (dC (.int 1))) (dVar 5))) saNil))) (dC (.int 4))) (dLen (bVar 6))) (([Sl.sc ns, .fz (.int k), .fz (webP n ps), .fz (.int z), .fz (tupI ms), s5, s6, s7].set 5 (.fz (.int i))).set 6 (.fz (.list (free.map PyData.int)))) = .ok (.int x) := by
          simp [law_mix_den, opDiv_int, opMod_int _ _ hfl, hj, hget]
        rw [dTuple_e, dLst_e, lSorted_e, bOf_e, dBin_e, dTup_e, lCons_e, e1]
        simp [o1, o2]
      · refine sortZ_up ?_
        rw [List.nodup_append]
        exact ⟨u1.nodup, by simp, fun a ha b hb' => by
          have : b = x := by simpa using hb'
          subst this
          intro q
          subst q
          exact f2.1 ha⟩
      · have := (sortZ_perm (ms ++ [x])).mem_iff.mp hs
        rcases List.mem_append.mp this with q | q
        · exact u2 s q
        · have : s = x := by simpa using q
          subst this
          exact fx
      · rw [indep_mem fun y => (sortZ_perm (ms ++ [x])).mem_iff]
        exact f2.2
      · rw [(sortZ_perm (ms ++ [x])).length_eq]
        simp
        omega
  · rintro ρ ⟨ms, s5, s6, s7, rfl, hg, hl⟩
    rw [rngM_len] at hl
    exact wp_ret rfl ⟨ms, rfl, hg, by omega⟩
/-! MsM7: what stands beside each spot; the parts. -/
def Adj (ps : List (Int × Int)) (x y : Int) : Prop := (x, y) ∈ ps ∨ (y, x) ∈ ps
theorem Adj.symm {ps : List (Int × Int)} {x y : Int} (h : Adj ps x y) : Adj ps y x := h.elim .inr .inl
theorem beside_mem {i y : Int} : ∀ {ps : List (Int × Int)}, y ∈ besideL i ps ↔ Adj ps i y
  | [] => by simp [besideL, Adj]
  | (a, b) :: r => by
    unfold besideL
    rw [List.mem_append, List.mem_append, beside_mem (ps := r)]
    unfold Adj
    simp only [List.mem_cons, Prod.mk.injEq]
    constructor
    · rintro ((h | h) | h | h)
      · split at h
        · rename_i q; simp at h; exact .inl (.inl ⟨q.symm, h⟩)
        · simp at h
      · split at h
        · rename_i q; simp at h; exact .inr (.inl ⟨h, q.symm⟩)
        · simp at h
      · exact .inl (.inr h)
      · exact .inr (.inr h)
    · rintro ((⟨h1, h2⟩ | h) | ⟨h1, h2⟩ | h)
      · exact .inl (.inl (by rw [if_pos h1.symm, h2]; simp))
      · exact .inr (.inl h)
      · exact .inl (.inr (by rw [if_pos h2.symm, h1]; simp))
      · exact .inr (.inr h)
theorem beside_nodup {i : Int} : ∀ {ps : List (Int × Int)}, ps.Pairwise ltP → (∀ q ∈ ps, q.1 < q.2) → (besideL i ps).Nodup
  | [], _, _ => List.nodup_nil
  | (a, b) :: r, h, hq => by
    obtain ⟨h1, h2⟩ := List.pairwise_cons.mp h
    have hab : a < b := hq (a, b) List.mem_cons_self
    have ih := beside_nodup (i := i) h2 fun q hq' => hq q (List.mem_cons_of_mem _ hq')
    have nb : a = i → b ∉ besideL i r := fun e hb => by
      rcases beside_mem.mp hb with q | q
      · have := h1 _ q
        unfold ltP at this
        omega
      · have := hq _ (List.mem_cons_of_mem _ q)
        simp only at this
        omega
    have na : b = i → a ∉ besideL i r := fun e hb => by
      rcases beside_mem.mp hb with q | q
      · have := hq _ (List.mem_cons_of_mem _ q)
        simp only at this
        omega
      · have := h1 _ q
        unfold ltP at this
        omega
    unfold besideL
    by_cases e1 : a = i
    · have e2 : ¬ b = i := by omega
      rw [if_pos e1, if_neg e2, List.append_nil]
      exact List.nodup_cons.mpr ⟨nb e1, ih⟩
    · by_cases e2 : b = i
      · rw [if_neg e1, if_pos e2, List.nil_append]
        exact List.nodup_cons.mpr ⟨na e2, ih⟩
      · rw [if_neg e1, if_neg e2]
        exact ih
theorem addAt_len (dss : List (List Int)) (i : Nat) (x : Int) : (addAt dss i x).length = dss.length := by
  unfold addAt
  rw [List.length_set]
theorem addAt_get {dss : List (List Int)} {i j : Nat} {x : Int} (h : j < dss.length) : (addAt dss i x).getD j [] = dss.getD j [] ++ (if i = j then [x] else []) := by
  unfold addAt
  rw [List.getD_eq_getElem?_getD, List.getElem?_set]
  by_cases e : i = j
  · subst e
    rw [if_pos rfl, if_pos h, if_pos rfl]
    rfl
  · rw [if_neg e, if_neg e, List.append_nil, List.getD_eq_getElem?_getD]
theorem nearGo_len : ∀ (ps : List (Int × Int)) (dss : List (List Int)), (nearGo ps dss).length = dss.length
  | [], _ => rfl
  | (a, b) :: r, dss => by
    unfold nearGo
    rw [nearGo_len r, addAt_len, addAt_len]
theorem nearGo_get {j : Nat} : ∀ {ps : List (Int × Int)} {dss : List (List Int)}, (∀ q ∈ ps, 0 ≤ q.1 ∧ 0 ≤ q.2) → j < dss.length → (nearGo ps dss).getD j [] = dss.getD j [] ++ besideL (j : Int) ps
  | [], dss, _, _ => by unfold nearGo besideL; rw [List.append_nil]
  | (a, b) :: r, dss, h, hj => by
    obtain ⟨ha, hb⟩ := h (a, b) List.mem_cons_self
    simp only at ha hb
    unfold nearGo besideL
    rw [nearGo_get (fun q hq => h q (List.mem_cons_of_mem _ hq)) (by rw [addAt_len, addAt_len]; exact hj), addAt_get (by rw [addAt_len]; exact hj), addAt_get hj, List.append_assoc, List.append_assoc, List.append_assoc]
    have e1 : (if a.toNat = j then [b] else []) = if a = (j : Int) then [b] else [] := by
      by_cases q : a = (j : Int)
      · rw [if_pos q, if_pos (by omega)]
      · rw [if_neg q, if_neg (by omega)]
    have e2 : (if b.toNat = j then [a] else []) = if b = (j : Int) then [a] else [] := by
      by_cases q : b = (j : Int)
      · rw [if_pos q, if_pos (by omega)]
      · rw [if_neg q, if_neg (by omega)]
    rw [e1, e2]
/-- the sorted neighbours -/
def nbr (ps : List (Int × Int)) (i : Int) : List Int := sortZ (besideL i ps)
def nearM (n : Int) (ps : List (Int × Int)) : List (List Int) := (List.range n.toNat).map fun (i : Nat) => nbr ps i
theorem nbr_mem {ps : List (Int × Int)} {i y : Int} : y ∈ nbr ps i ↔ Adj ps i y := by
  unfold nbr
  rw [(sortZ_perm _).mem_iff, beside_mem]
theorem nbr_up {ps : List (Int × Int)} (h : ps.Pairwise ltP) (hq : ∀ q ∈ ps, q.1 < q.2) (i : Int) : Up (nbr ps i) := sortZ_up (beside_nodup h hq)
abbrev lstI (l : List Int) : PyData := .list (l.map .int)
theorem nearGo_near {n : Int} {ps : List (Int × Int)} (hq : ∀ q ∈ ps, 0 ≤ q.1 ∧ 0 ≤ q.2) : (nearGo ps (List.replicate n.toNat [])).map sortZ = nearM n ps := by
  have hl : (nearGo ps (List.replicate n.toNat [])).length = n.toNat := by rw [nearGo_len, List.length_replicate]
  apply List.ext_getElem
  · simp [nearM, hl]
  · intro i h1 h2
    have hi : i < n.toNat := by simpa [nearM] using h2
    have := nearGo_get (j := i) (dss := List.replicate n.toNat []) hq (by simpa using hi)
    rw [List.getD_eq_getElem?_getD, List.getElem?_eq_getElem (by omega)] at this
    simp only [Option.getD_some] at this
    have e : (nearM n ps)[i] = nbr ps i := by simp [nearM]
    rw [List.getElem_map, e, this]
    unfold nbr
    congr 1
    rw [List.getD_eq_getElem?_getD, List.getElem?_replicate, if_pos hi]
    rfl
theorem beside_len {i : Int} : ∀ ps : List (Int × Int), (besideL i ps).length ≤ 2 * ps.length
  | [] => by simp [besideL]
  | (a, b) :: r => by
    unfold besideL
    have := beside_len (i := i) r
    rw [List.length_append, List.length_append, List.length_cons]
    have h1 : (if a = i then [b] else []).length ≤ 1 := by split <;> simp
    have h2 : (if b = i then [a] else []).length ≤ 1 := by split <;> simp
    omega
theorem near_den {n m : Int} {ps : List (Int × Int)} (h : GoodWeb n m ps) (hm : m ≤ 12) : d_near [.fz (webP n ps)] = .ok (.list ((nearM n ps).map lstI)) := by
  obtain ⟨g1, g2, g3, g4, g5⟩ := h
  have hq : ∀ q ∈ ps, 0 ≤ q.1 ∧ 0 ≤ q.2 := fun q hq => by have := g3 q hq; omega
  refine wp_run [.fz (webP n ps), .nil, .nil, .nil, .nil, .nil] ?_
  refine wp_seq ?_
  have e1 : sNear 0 1 2 3 [.fz (webP n ps), .nil, .nil, .nil, .nil, .nil] = .nx [.fz (webP n ps), .fz (.list ((nearGo ps (List.replicate n.toNat [])).map lstI)), .nil, .nil, .nil, .nil] := by
    unfold sNear
    rw [webP_eq]
    simp only [List.getElem?_cons_zero, pairs_map]
    rw [if_pos ⟨⟨by omega, by omega, by omega, List.all_eq_true.mpr fun p hp => decide_eq_true (by have := g3 p hp; omega)⟩, by simp [Sl.own], by simp, by simp, by simp⟩]
    rfl
  rw [e1]
  show W (sRet _ _) _ _
  refine wp_ret (d := .list ((nearM n ps).map lstI)) ?_ rfl
  have : lComp (iSeq (bVar 1)) (gN 5) tYes (dLst (lSorted (bVar 5))) [5] [.fz (webP n ps), .fz (.list ((nearGo ps (List.replicate n.toNat [])).map lstI)), .nil, .nil, .nil, .nil] = .ok ((nearGo ps (List.replicate n.toNat [])).map fun l => lstI (sortZ l)) := by
    refine lcomp_a (f := lstI) rfl rfl (by rw [nearGo_len, List.length_replicate]; omega) fun l hl => ⟨_, rfl, ?_⟩
    have hll : l.length ≤ 1000 := by
      obtain ⟨i, hi, rfl⟩ := List.mem_iff_getElem.mp hl
      have hi' : i < n.toNat := by rw [nearGo_len, List.length_replicate] at hi; exact hi
      have := nearGo_get (j := i) (dss := List.replicate n.toNat []) hq (by simpa using hi')
      rw [List.getD_eq_getElem?_getD, List.getElem?_eq_getElem hi, List.getD_eq_getElem?_getD, List.getElem?_replicate, if_pos hi'] at this
      simp only [Option.getD_some, List.nil_append] at this
      rw [this]
      have := beside_len (i := (i : Int)) ps
      omega
    have o : sortS (.fz (lstI l)) = .ok ((sortZ l).map .int) := sortD_ints (by omega)
    simp [wipeE, o]
  rw [dLst_e, this, ← nearGo_near hq, List.map_map]
  rfl
/-! MsM8: the parts. -/
theorem nodup_le : ∀ {l m : List Int}, l.Nodup → (∀ x ∈ l, x ∈ m) → l.length ≤ m.length
  | [], _, _, _ => Nat.zero_le _
  | x :: l, m, h, hs => by
    obtain ⟨h1, h2⟩ := List.nodup_cons.mp h
    have hx := hs x List.mem_cons_self
    have ih := nodup_le (m := m.erase x) h2 fun y hy => (List.mem_erase_of_ne (by rintro rfl; exact h1 hy)).mpr (hs y (List.mem_cons_of_mem _ hy))
    rw [List.length_erase_of_mem hx] at ih
    have := List.length_pos_of_mem hx
    rw [List.length_cons]
    omega
inductive Rch (nb : Int → List Int) (S : List Int) : Int → Int → Prop
  | refl (x : Int) : Rch nb S x x
  | step {r x y : Int} : Rch nb S r x → y ∈ nb x → y ∈ S → Rch nb S r y
structure IsPart (nb : Int → List Int) (S c : List Int) : Prop where
  up : Up c
  sub : ∀ x ∈ c, x ∈ S
  root : ∃ r ∈ c, ∀ x ∈ c, Rch nb S r x
  shut : ∀ x ∈ c, ∀ y ∈ nb x, y ∈ S → y ∈ c
structure PSpec (nb : Int → List Int) (S : List Int) (cs : List (List Int)) : Prop where
  each : ∀ c ∈ cs, IsPart nb S c
  new : cs.Pairwise fun c c' => ∃ r ∈ c', r ∉ c
def besD (nb : Int → List Int) (n : Nat) : PyData := .list ((List.range n).map fun (i : Nat) => lstI (nb i))
theorem parts_den {nb : Int → List Int} {n : Nat} {S : List Int} (hn : ∀ i, (nb i).Nodup) (hl : ∀ i, (nb i).length ≤ 1000) (hS : ∀ x ∈ S, 0 ≤ x ∧ x < n) (hSl : S.length ≤ 1000) :
    ∃ cs, d_parts [.fz (besD nb n), .fz (lstI S)] = .ok (.list (cs.map lstI)) ∧ PSpec nb S cs ∧ ∀ x ∈ S, ∃ c ∈ cs, x ∈ c := by
  refine run_ex (as := [.fz (besD nb n), .fz (lstI S)]) (n := 7) (Q := fun r => ∃ cs, r = .ok (.list (cs.map lstI)) ∧ PSpec nb S cs ∧ ∀ x ∈ S, ∃ c ∈ cs, x ∈ c) [.fz (besD nb n), .fz (lstI S), .nil, .nil, .nil, .nil, .nil] ?_
  refine wp_seq (wp_own (ds := []) rfl ?_)
  refine wp_seq (wp_for (ds := S.map .int) rfl (fun i ρ => ∃ cs s3 s4 s5 s6, ρ = [.fz (besD nb n), .fz (lstI S), .ow (cs.map lstI), s3, s4, s5, s6] ∧ PSpec nb S cs ∧ (∀ x ∈ S.take i, ∃ c ∈ cs, x ∈ c) ∧ cs.length ≤ i) ⟨[], _, _, _, _, rfl, ⟨fun c hc => by simp at hc, List.Pairwise.nil⟩, fun x hx => by simp at hx, Nat.le_refl _⟩ ?_ ?_)
  · rintro i d ρ hd ⟨cs, s3, s4, s5, s6, rfl, hP, hc, hcl⟩
    rw [List.getElem?_map] at hd
    cases ex : S[i]? with
    | none => rw [ex] at hd; cases hd
    | some spot =>
      rw [ex] at hd
      cases hd
      have hspot : spot ∈ S := List.mem_of_getElem? ex
      have hi : i < S.length := (List.getElem?_eq_some_iff.mp ex).1
      have htake : S.take (i + 1) = S.take i ++ [spot] := by rw [List.take_add_one, ex]; rfl
      refine ⟨_, rfl, ?_⟩
      refine wp_if (b := !(cs.any fun c => decide (spot ∈ c))) ?_ (fun hb => ?_) (fun hb => ?_)
      · have : lComp (iSeq (bVar 2)) (gN 4) tYes (dT (tIn (dVar 3) (bVar 4))) [4] [.fz (besD nb n), .fz (lstI S), .ow (cs.map lstI), .fz (.int spot), s4, s5, s6] = .ok (cs.map fun c => .bool (decide (spot ∈ c))) := by
          refine lcomp_a (f := lstI) rfl rfl (by omega) fun c _ => ⟨_, rfl, ?_⟩
          simp [wipeE]
        rw [tNot_e, tTru_e, bOf_e, dAny_e, dLst_e]
        show (((((lComp (iSeq (bVar 2)) (gN 4) tYes (dT (tIn (dVar 3) (bVar 4))) [4] [.fz (besD nb n), .fz (lstI S), .ow (cs.map lstI), .fz (.int spot), s4, s5, s6]).bind fun ds => .ok (PyData.list ds)).bind anyD).bind fun d => .ok (Sl.fz d)).bind truS).bind (fun b => Rs.ok !b) = _
        rw [this]
        simp only [Rs.bind_ok, anyD_map, truS_b]
      · -- a new part
        have hnot : ∀ c ∈ cs, spot ∉ c := fun c hc' hx => by
          have : (cs.any fun c => decide (spot ∈ c)) = true := List.any_eq_true.mpr ⟨c, hc', decide_eq_true hx⟩
          rw [this] at hb
          cases hb
        refine wp_seq (wp_own (ds := [.int spot]) rfl ?_)
        refine wp_seq (wp_set (d := .int 0) rfl ?_)
        refine wp_seq (wp_while (fun m ρ => ∃ part a s6, ρ = [.fz (besD nb n), .fz (lstI S), .ow (cs.map lstI), .fz (.int spot), .ow (part.map .int), .fz (.int (a : Nat)), s6] ∧ part.Nodup ∧ (∀ x ∈ part, x ∈ S) ∧ (∀ x ∈ part, Rch nb S spot x) ∧ spot ∈ part ∧ a ≤ part.length ∧ (∀ x ∈ part.take a, ∀ y ∈ nb x, y ∈ S → y ∈ part) ∧ m = S.length - a)
          (m := S.length) (Nat.lt_of_le_of_lt hSl (by decide)) ⟨[spot], 0, s6, rfl, by simp, fun x hx => by
            have : x = spot := by simpa using hx
            subst this; exact hspot, fun x hx => by
            have : x = spot := by simpa using hx
            subst this; exact .refl _, by simp, Nat.zero_le _, fun x hx => by simp at hx, by simp⟩ ?_)
        rintro m ρ ⟨part, a, t6, rfl, p1, p2, p3, p4, p5, p6, rfl⟩
        have hpl : part.length ≤ S.length := nodup_le p1 p2
        by_cases hlt : a < part.length
        · refine .inr ⟨?_, ?_⟩
          · simp [hlt]
          · have hx : part[a] ∈ part := List.getElem_mem hlt
            have hxS := hS _ (p2 _ hx)
            have ep : part[a]? = some part[a] := List.getElem?_eq_getElem hlt
            have htk : part.take (a + 1) = part.take a ++ [part[a]] := by rw [List.take_add_one, ep]; rfl
            generalize part[a] = x at *
            generalize hnew : (nb x).filter (fun y => decide (y ∈ S) && !decide (y ∈ part)) = new
            have hnm : ∀ y, y ∈ new ↔ y ∈ nb x ∧ y ∈ S ∧ y ∉ part := fun y => by
              rw [← hnew, List.mem_filter, Bool.and_eq_true, decide_eq_true_eq, Bool.not_eq_true', decide_eq_false_iff_not]
            have hnl : new.length ≤ 1000 := by
              rw [← hnew]
              exact Nat.le_trans (List.length_filter_le _ _) (hl x)
            refine wp_seq (wp_ext (ds := part.map .int) (es := new.map .int) rfl ?_ (by rw [List.length_map, List.length_map]; omega) ?_)
            · rw [← hnew]
              refine lcomp_t (f := PyData.int) ?_ rfl (Nat.le_trans (hl x) (by decide)) fun y _ => ⟨_, rfl, ?_, fun _ => rfl⟩
              · have eb : ((List.range n).map fun (i : Nat) => lstI (nb i))[x.toNat]? = some (lstI (nb x)) := by
                  rw [List.getElem?_map, List.getElem?_range (by omega)]
                  show some (lstI (nb ((x.toNat : Nat) : Int))) = _
                  rw [Int.toNat_of_nonneg hxS.1]
                simp [ep, besD, atD_pos _ x hxS.1, eb]
              · simp [wipeE]
                by_cases q : y ∈ S <;> simp [q]
            refine wp_set (d := .int ((a + 1 : Nat) : Int)) (by simp) ⟨S.length - (a + 1), by omega, part ++ new, a + 1, t6, by rw [List.map_append]; rfl, ?_, fun y hy => ?_, fun y hy => ?_, List.mem_append_left _ p4, by rw [List.length_append]; omega, ?_, rfl⟩
            · rw [List.nodup_append]
              refine ⟨p1, ?_, fun u hu v hv e => ?_⟩
              · rw [← hnew]
                exact (hn x).filter _
              · subst e
                exact ((hnm u).mp hv).2.2 hu
            · rcases List.mem_append.mp hy with q | q
              · exact p2 y q
              · exact ((hnm y).mp q).2.1
            · rcases List.mem_append.mp hy with q | q
              · exact p3 y q
              · obtain ⟨z1, z2, _⟩ := (hnm y).mp q
                exact .step (p3 x hx) z1 z2
            · intro u hu y hy hyS
              rw [List.take_append_of_le_length (by omega), htk] at hu
              rw [List.mem_append]
              by_cases hyp : y ∈ part
              · exact .inl hyp
              · rcases List.mem_append.mp hu with q | q
                · exact .inl (p6 u q y hy hyS)
                · have : u = x := by simpa using q
                  subst this
                  exact .inr ((hnm y).mpr ⟨hy, hyS, hyp⟩)
        · refine .inl ⟨by simp [hlt], ?_⟩
          have ha : a = part.length := by omega
          subst ha
          rw [List.take_length] at p6
          have so : sortS (.ow (part.map .int)) = .ok ((sortZ part).map .int) := sortD_ints (by omega)
          refine wp_app (ds := cs.map lstI) (d := lstI (sortZ part)) rfl (by simp [so]) (by rw [List.length_map]; omega) ?_
          have hm : ∀ x, x ∈ sortZ part ↔ x ∈ part := fun x => (sortZ_perm part).mem_iff
          refine ⟨cs ++ [sortZ part], _, _, _, _, by rw [List.map_append]; rfl, ⟨fun c hc' => ?_, ?_⟩, fun x hx => ?_, by rw [List.length_append, List.length_singleton]; omega⟩
          · rcases List.mem_append.mp hc' with q | q
            · exact hP.each c q
            · have : c = sortZ part := by simpa using q
              subst this
              exact ⟨sortZ_up p1, fun x hx => p2 x ((hm x).mp hx), ⟨spot, (hm _).mpr p4, fun x hx => p3 x ((hm x).mp hx)⟩, fun x hx y hy hyS => (hm y).mpr (p6 x ((hm x).mp hx) y hy hyS)⟩
          · refine List.pairwise_append.mpr ⟨hP.new, List.pairwise_singleton _ _, fun c hc' c' hc2 => ?_⟩
            have : c' = sortZ part := by simpa using hc2
            subst this
            exact ⟨spot, (hm _).mpr p4, hnot c hc'⟩
          · rw [htake] at hx
            rcases List.mem_append.mp hx with q | q
            · obtain ⟨c, h1, h2⟩ := hc x q
              exact ⟨c, List.mem_append_left _ h1, h2⟩
            · have : x = spot := by simpa using q
              subst this
              exact ⟨sortZ part, by simp, (hm _).mpr p4⟩
      · refine wp_nx ⟨cs, _, _, _, _, rfl, hP, fun x hx => ?_, by omega⟩
        rw [htake] at hx
        rcases List.mem_append.mp hx with q | q
        · exact hc x q
        · have : x = spot := by simpa using q
          subst this
          have : (cs.any fun c => decide (x ∈ c)) = true := by
            cases e : (cs.any fun c => decide (x ∈ c)) with
            | true => rfl
            | false => rw [e] at hb; cases hb
          obtain ⟨c, h1, h2⟩ := List.any_eq_true.mp this
          exact ⟨c, h1, of_decide_eq_true h2⟩
  · rintro ρ ⟨cs, s3, s4, s5, s6, rfl, hP, hc, hcl⟩
    rw [List.length_map, List.take_length] at hc
    refine wp_seq (wp_frz rfl ?_)
    exact wp_ret rfl ⟨cs, rfl, hP, hc⟩
/-! MsM9: two ways to tell a tree. -/
section
variable {nb : Int → List Int} {S : List Int}
theorem Rch.trans {a b c : Int} (h : Rch nb S a b) (k : Rch nb S b c) : Rch nb S a c := by
  induction k with
  | refl => exact h
  | step _ h2 h3 ih => exact .step ih h2 h3
theorem Rch.symm (hs : ∀ x y, y ∈ nb x → x ∈ nb y) {a b : Int} (ha : a ∈ S) (h : Rch nb S a b) : Rch nb S b a ∧ b ∈ S := by
  induction h with
  | refl => exact ⟨.refl _, ha⟩
  | step h1 h2 h3 ih =>
    obtain ⟨i1, i2⟩ := ih
    exact ⟨(Rch.step (.refl _) (hs _ _ h2) i2).trans i1, h3⟩
theorem Rch.shut {c : List Int} (h : ∀ x ∈ c, ∀ y ∈ nb x, y ∈ S → y ∈ c) {a b : Int} (ha : a ∈ c) (k : Rch nb S a b) : b ∈ c := by
  induction k with
  | refl => exact ha
  | step _ h2 h3 ih => exact h _ ih _ h2 h3
/-- one part just if all hang together -/
theorem parts_one (hs : ∀ x y, y ∈ nb x → x ∈ nb y) {z : Int} (hz : z ∈ S) {cs : List (List Int)} (hP : PSpec nb S cs) (hc : ∀ x ∈ S, ∃ c ∈ cs, x ∈ c) : cs.length = 1 ↔ ∀ s ∈ S, Rch nb S z s := by
  constructor
  · intro h s hs'
    match cs, h with
    | [c], _ =>
      obtain ⟨r, hr, hall⟩ := (hP.each c (by simp)).root
      have h1 : z ∈ c := by
        obtain ⟨c', q1, q2⟩ := hc z hz
        have : c' = c := by simpa using q1
        subst this; exact q2
      have h2 : s ∈ c := by
        obtain ⟨c', q1, q2⟩ := hc s hs'
        have : c' = c := by simpa using q1
        subst this; exact q2
      have hrS := (hP.each c (by simp)).sub r hr
      exact (Rch.symm hs hrS (hall z h1)).1.trans (hall s h2)
  · intro h
    match cs, hP, hc with
    | [], _, hc =>
      obtain ⟨c, q, _⟩ := hc z hz
      simp at q
    | [c], _, _ => rfl
    | c :: c' :: r, hP, hc =>
      exfalso
      obtain ⟨x, hx, hn⟩ := (List.pairwise_cons.mp hP.new).1 c' (by simp)
      have hp := hP.each c (by simp)
      obtain ⟨y, hy, _⟩ := hp.root
      have hyz : Rch nb S y z := (Rch.symm hs hz (h y (hp.sub y hy))).1
      have hxS := (hP.each c' (by simp)).sub x hx
      exact hn (Rch.shut hp.shut hy (hyz.trans (h x hxS)))
end
def Conn (n : Int) (ps : List (Int × Int)) : Prop := ∀ s ∈ rngZ 0 n, Rch (nbr ps) (rngZ 0 n) 0 s
theorem besD_near (n : Int) (ps : List (Int × Int)) : (PyData.list ((nearM n ps).map lstI)) = besD (nbr ps) n.toNat := by
  unfold nearM besD
  rw [List.map_map]
  rfl
theorem nbr_len {ps : List (Int × Int)} (h : ps.length ≤ 500) (i : Int) : (nbr ps i).length ≤ 1000 := by
  unfold nbr
  rw [(sortZ_perm _).length_eq]
  have := beside_len (i := i) ps
  omega
theorem nbr_symm (ps : List (Int × Int)) (x y : Int) (h : y ∈ nbr ps x) : x ∈ nbr ps y := nbr_mem.mpr (nbr_mem.mp h).symm
theorem is_tree_den {n m : Int} {ps : List (Int × Int)} (h : GoodWeb n m ps) (hm : m ≤ 12) : ∃ b, d_is_tree [.fz (webP n ps)] = .ok (.bool b) ∧ (b = true ↔ (ps.length : Int) = n - 1 ∧ Conn n ps) := by
  have hok := good_ok h hm
  have hnear := near_den h hm
  obtain ⟨g1, g2, g3, g4, g5⟩ := h
  have hlt : ∀ q ∈ ps, q.1 < q.2 := fun q hq => (g3 q hq).2.1
  obtain ⟨cs, hcs, hP, hc⟩ := parts_den (nb := nbr ps) (n := n.toNat) (S := rngZ 0 n) (fun i => (nbr_up g4 hlt i).nodup) (nbr_len (by omega)) (fun x hx => by have := rngZ_mem.mp hx; omega) (by rw [rngZ_len]; omega)
  rw [← besD_near] at hcs
  have one := parts_one (nbr_symm ps) (z := 0) (rngZ_mem.mpr ⟨Int.le_refl _, by omega⟩) hP hc
  refine ⟨decide ((ps.length : Int) = n - 1) && decide (cs.length = 1), ?_, ?_⟩
  · refine wp_run [.fz (webP n ps)] ?_
    refine wp_seq (wp_expr (d := .none) ?_ ?_)
    · simp [look_web_den n (ps.map pl) (by simp; omega), hok]
    refine wp_ret (d := .bool (decide ((ps.length : Int) = n - 1) && decide (cs.length = 1))) ?_ rfl
    have e1 : rng1 (.int n) = .ok ((rngZ 0 n).map .int) := by rw [rng1_ok n (by omega) (by omega), rng0_map]
    have e0 : dIx (bVar 0) (dC (.int 0)) [.fz (webP n ps)] = .ok (.int n) := rfl
    have e2 : dIx (bVar 0) (dC (.int 1)) [.fz (webP n ps)] = .ok (.list ((ps.map pl).map tupI)) := rfl
    have e3 : bVar 0 [.fz (webP n ps)] = .ok (.fz (webP n ps)) := rfl
    simp only [dAnd_e, dT_e, tCmp_e, dLen_e, bOf_e, dBin_e, e0, e2, dC_e, Rs.bind_ok, lenS_l, opSub_int, cEq_int, List.length_map, asB_b]
    by_cases q : (ps.length : Int) = n - 1
    · simp only [q, decide_true, if_true, dCall_e, saCons_e, saNil_e, e3, bOf_e, frzS_f, Rs.bind_ok, hnear, dLst_e, iR1_e, e0, e1, hcs, lenS_l, cEq_int, List.length_map, Bool.true_and]
      congr 2
      by_cases q2 : cs.length = 1 <;> simp [q2]
      omega
    · simp [q]
  · rw [Bool.and_eq_true, decide_eq_true_eq, decide_eq_true_eq, one]
    rfl

/-! ### the law's way -/
def stepK (K : List Int) (p : Int × Int) : List Int := if decide (p.1 ∈ K) = decide (p.2 ∈ K) then K else K ++ [p.1, p.2]
def turnK (ps : List (Int × Int)) (K : List Int) : List Int := ps.foldl stepK K
def ShutK (ps : List (Int × Int)) (K : List Int) : Prop := ∀ p ∈ ps, (p.1 ∈ K ↔ p.2 ∈ K)
theorem stepK_sub {K : List Int} {p : Int × Int} {x : Int} (h : x ∈ K) : x ∈ stepK K p := by
  unfold stepK
  split
  · exact h
  · exact List.mem_append_left _ h
theorem turnK_sub : ∀ {ps : List (Int × Int)} {K : List Int} {x : Int}, x ∈ K → x ∈ turnK ps K
  | [], _, _, h => h
  | p :: ps, K, x, h => turnK_sub (ps := ps) (stepK_sub h)
theorem stepK_len (K : List Int) (p : Int × Int) : (stepK K p).length ≤ K.length + 2 := by
  unfold stepK
  split
  · omega
  · simp
/-- the number of different ones -/
def cnt (K : List Int) : Nat := (upI K).length
theorem cnt_sub {K L : List Int} (h : ∀ x ∈ K, x ∈ L) : cnt K ≤ cnt L := nodup_le (Up.nodup (upI_up K)) fun x hx => upI_mem.mpr (h x (upI_mem.mp hx))
theorem cnt_more {K L : List Int} {y : Int} (h : ∀ x ∈ K, x ∈ L) (hy : y ∈ L) (hn : y ∉ K) : cnt K + 1 ≤ cnt L := by
  have : (y :: upI K).Nodup := List.nodup_cons.mpr ⟨fun q => hn (upI_mem.mp q), Up.nodup (upI_up K)⟩
  exact nodup_le this fun x hx => by
    rcases List.mem_cons.mp hx with rfl | q
    · exact upI_mem.mpr hy
    · exact upI_mem.mpr (h x (upI_mem.mp q))
/-- a turn either finds something new, or all is shut -/
theorem turn_or : ∀ (ps : List (Int × Int)) (K : List Int), (turnK ps K = K ∧ ShutK ps K) ∨ cnt K + 1 ≤ cnt (turnK ps K)
  | [], K => .inl ⟨rfl, fun p hp => by simp at hp⟩
  | p :: ps, K => by
    by_cases e : decide (p.1 ∈ K) = decide (p.2 ∈ K)
    · have es : stepK K p = K := if_pos e
      show (turnK ps (stepK K p) = K ∧ _) ∨ _ ≤ cnt (turnK ps (stepK K p))
      rw [es]
      rcases turn_or ps K with ⟨h1, h2⟩ | h
      · refine .inl ⟨h1, fun q hq => ?_⟩
        rcases List.mem_cons.mp hq with rfl | hq
        · exact decide_eq_decide.mp e
        · exact h2 q hq
      · exact .inr h
    · have es : stepK K p = K ++ [p.1, p.2] := if_neg e
      refine .inr ?_
      show _ ≤ cnt (turnK ps (stepK K p))
      rw [es]
      have sub : ∀ x ∈ K, x ∈ turnK ps (K ++ [p.1, p.2]) := fun x hx => turnK_sub (List.mem_append_left _ hx)
      by_cases q : p.1 ∈ K
      · have q2 : p.2 ∉ K := fun q2 => e (by rw [decide_eq_true q, decide_eq_true q2])
        exact cnt_more (y := p.2) sub (turnK_sub (by simp)) q2
      · exact cnt_more (y := p.1) sub (turnK_sub (by simp)) q
def turnsK (ps : List (Int × Int)) : Nat → List Int → List Int
  | 0, K => K
  | t + 1, K => turnK ps (turnsK ps t K)
theorem turns_or (ps : List (Int × Int)) (K : List Int) : ∀ t, ShutK ps (turnsK ps t K) ∨ cnt K + t ≤ cnt (turnsK ps t K)
  | 0 => .inr (Nat.le_refl _)
  | t + 1 => by
    show ShutK ps (turnK ps (turnsK ps t K)) ∨ _ ≤ cnt (turnK ps (turnsK ps t K))
    rcases turn_or ps (turnsK ps t K) with ⟨h1, h2⟩ | h
    · rw [h1]; exact .inl h2
    · rcases turns_or ps K t with k | k
      · -- shut already: nothing is found
        have : ∀ (qs : List (Int × Int)) (L : List Int), ShutK qs L → turnK qs L = L := by
          intro qs
          induction qs with
          | nil => intro L _; rfl
          | cons q qs ih =>
            intro L hL
            have es : stepK L q = L := if_pos (decide_eq_decide.mpr (hL q List.mem_cons_self))
            show turnK qs (stepK L q) = L
            rw [es]
            exact ih L fun p hp => hL p (List.mem_cons_of_mem _ hp)
        rw [this ps _ k]
        exact .inl k
      · exact .inr (by omega)
theorem step_rch {n : Int} {ps : List (Int × Int)} (hw : InWeb n ps) {K : List Int} (hK : ∀ x ∈ K, x ∈ rngZ 0 n ∧ Rch (nbr ps) (rngZ 0 n) 0 x) {p : Int × Int} (hp : p ∈ ps) : ∀ x ∈ stepK K p, x ∈ rngZ 0 n ∧ Rch (nbr ps) (rngZ 0 n) 0 x := fun x hx => by
  unfold stepK at hx
  split at hx
  · exact hK x hx
  · rename_i e
    have hq := hw p hp
    have m1 : p.1 ∈ rngZ 0 n := rngZ_mem.mpr (by omega)
    have m2 : p.2 ∈ rngZ 0 n := rngZ_mem.mpr (by omega)
    have both : Rch (nbr ps) (rngZ 0 n) 0 p.1 ∧ Rch (nbr ps) (rngZ 0 n) 0 p.2 := by
      by_cases q : p.1 ∈ K
      · have r := (hK _ q).2
        exact ⟨r, .step r (nbr_mem.mpr (.inl hp)) m2⟩
      · by_cases q2 : p.2 ∈ K
        · have r := (hK _ q2).2
          exact ⟨.step r (nbr_mem.mpr (.inr hp)) m1, r⟩
        · exact absurd (by rw [decide_eq_false q, decide_eq_false q2]) e
    rcases List.mem_append.mp hx with h | h
    · exact hK x h
    · have : x = p.1 ∨ x = p.2 := by simpa using h
      rcases this with rfl | rfl
      · exact ⟨m1, both.1⟩
      · exact ⟨m2, both.2⟩
theorem turn_rch {n : Int} {ps : List (Int × Int)} (hw : InWeb n ps) : ∀ (qs : List (Int × Int)), (∀ q ∈ qs, q ∈ ps) → ∀ K : List Int, (∀ x ∈ K, x ∈ rngZ 0 n ∧ Rch (nbr ps) (rngZ 0 n) 0 x) → ∀ x ∈ turnK qs K, x ∈ rngZ 0 n ∧ Rch (nbr ps) (rngZ 0 n) 0 x
  | [], _, K, hK => hK
  | q :: qs, hs, K, hK => turn_rch hw qs (fun p hp => hs p (List.mem_cons_of_mem _ hp)) (stepK K q) (step_rch hw hK (hs q List.mem_cons_self))
theorem turns_rch {n : Int} {ps : List (Int × Int)} (hw : InWeb n ps) {K : List Int} (hK : ∀ x ∈ K, x ∈ rngZ 0 n ∧ Rch (nbr ps) (rngZ 0 n) 0 x) : ∀ t, ∀ x ∈ turnsK ps t K, x ∈ rngZ 0 n ∧ Rch (nbr ps) (rngZ 0 n) 0 x
  | 0 => hK
  | t + 1 => turn_rch hw ps (fun _ h => h) _ (turns_rch hw hK t)
theorem known_all {n : Int} {ps : List (Int × Int)} (hw : InWeb n ps) (hn : 1 ≤ n) : ((cnt (turnsK ps n.toNat [0]) : Int) = n) ↔ Conn n ps := by
  have h0 : (0 : Int) ∈ rngZ 0 n := rngZ_mem.mpr ⟨Int.le_refl _, by omega⟩
  have hK := turns_rch hw (K := [0]) (fun x hx => by
    have : x = 0 := by simpa using hx
    subst this
    exact ⟨h0, .refl _⟩) n.toNat
  have sub0 : ∀ t, (0 : Int) ∈ turnsK ps t [0] := fun t => by
    induction t with
    | zero => simp [turnsK]
    | succ t ih => exact turnK_sub ih
  have hup : Up (rngZ 0 n) := rngZ_up 0 n
  have hle : cnt (turnsK ps n.toNat [0]) ≤ n.toNat := by
    have := nodup_le (Up.nodup (upI_up (turnsK ps n.toNat [0]))) (m := rngZ 0 n) fun x hx => (hK x (upI_mem.mp hx)).1
    rw [rngZ_len] at this
    unfold cnt
    omega
  constructor
  · intro h s hs
    have hs' : s ∈ turnsK ps n.toNat [0] := by
      refine Classical.byContradiction fun hns => ?_
      have : (s :: upI (turnsK ps n.toNat [0])).Nodup := List.nodup_cons.mpr ⟨fun q => hns (upI_mem.mp q), Up.nodup (upI_up _)⟩
      have := nodup_le this (m := rngZ 0 n) fun x hx => by
        rcases List.mem_cons.mp hx with rfl | q
        · exact hs
        · exact (hK x (upI_mem.mp q)).1
      rw [rngZ_len, List.length_cons] at this
      unfold cnt at h
      omega
    exact (hK s hs').2
  · intro h
    rcases turns_or ps [0] n.toNat with k | k
    · -- shut: all that is reached is known
      have all : ∀ s, Rch (nbr ps) (rngZ 0 n) 0 s → s ∈ turnsK ps n.toNat [0] := fun s r => by
        induction r with
        | refl => exact sub0 _
        | step h1 h2 h3 ih =>
          rcases nbr_mem.mp h2 with q | q
          · exact (k _ q).mp ih
          · exact (k _ q).mpr ih
      have := nodup_le (Up.nodup hup) (m := upI (turnsK ps n.toNat [0])) fun x hx => upI_mem.mpr (all x (h x hx))
      rw [rngZ_len] at this
      unfold cnt at hle ⊢
      omega
    · have : cnt [0] = 1 := rfl
      omega
/-! MsM10: the law's own test of a tree; small rules. -/
theorem cNe_bool (a b : Bool) : cNe (.bool a) (.bool b) = .ok (!(a == b)) := ne_of (sh_bool a) (sh_bool b) rfl
theorem cEq_bool (a b : Bool) : cEq (.bool a) (.bool b) = .ok (a == b) := eq_of (sh_bool a) (sh_bool b) rfl
theorem eqv_self {n : Nat} {d : PyData} (h : shN n d) : PyData.eqv d d = true := PySem.SeqAt.eqv_refl d h.1
theorem cNe_self {n : Nat} {d : PyData} (h : shN n d) (hn : n ≤ 64 := by decide) : cNe d d = .ok false := ne_of h h (eqv_self h) hn hn
theorem cEq_self {n : Nat} {d : PyData} (h : shN n d) (hn : n ≤ 64 := by decide) : cEq d d = .ok true := eq_of h h (eqv_self h) hn hn
theorem sh_web (n : Int) (ls : List (List Int)) : shN 4 (webL n ls) := sh_tuple fun d hd => by
  have : d = .int n ∨ d = .list (ls.map tupI) := by simpa using hd
  rcases this with rfl | rfl
  · exact sh_mono (sh_int n) (by decide)
  · exact sh_listT ls
theorem lsetI_ok {ms : List Int} (h : ms.length < 4000) : lsetI (.list (ms.map .int)) = .ok (.int (upI ms).length) := by
  show (ofO (intsOf (ms.map .int))).bind _ = _
  rw [ints_map, ofO_some, Rs.bind_ok, if_pos h]
theorem law_is_tree_den {n m : Int} {ps : List (Int × Int)} (h : GoodWeb n m ps) (hm : m ≤ 12) : ∃ b, d__law_is_tree [.fz (webP n ps)] = .ok (.bool b) ∧ (b = true ↔ (ps.length : Int) = n - 1 ∧ Conn n ps) := by
  obtain ⟨g1, g2, g3, g4, g5⟩ := h
  have hall := known_all g3 g1
  refine ⟨decide ((cnt (turnsK ps n.toNat [0]) : Int) = n) && decide ((ps.length : Int) = n - 1), ?_, ?_⟩
  · refine wp_run [.fz (webP n ps), .nil, .nil, .nil, .nil] ?_
    refine wp_seq (wp_set (d := lstI [0]) rfl ?_)
    refine wp_seq (wp_for (ds := rngD 0 n.toNat) ?_ (fun i ρ => ∃ s2 s3 s4, ρ = [.fz (webP n ps), .fz (lstI (turnsK ps i [0])), s2, s3, s4] ∧ (turnsK ps i [0]).length ≤ 1 + i * 120) ⟨_, _, _, rfl, Nat.le_refl 1⟩ ?_ ?_)
    · simp [webL]
      exact rng1_ok n (by omega) (by omega)
    · rintro i d ρ hd ⟨s2, s3, s4, rfl, hl⟩
      obtain ⟨hi, rfl⟩ := rngD_at hd
      refine ⟨_, rfl, ?_⟩
      refine wp_for (ds := (ps.map pl).map tupI) rfl (fun j ρ => ∃ s2 s3 s4, ρ = [.fz (webP n ps), .fz (lstI ((ps.take j).foldl stepK (turnsK ps i [0]))), s2, s3, s4] ∧ ((ps.take j).foldl stepK (turnsK ps i [0])).length ≤ 1 + i * 120 + 2 * j) ⟨_, _, _, rfl, by simpa using hl⟩ ?_ ?_
      · rintro j d ρ hd ⟨t2, t3, t4, rfl, hl2⟩
        rw [List.map_map, List.getElem?_map] at hd
        cases ep : ps[j]? with
        | none => rw [ep] at hd; cases hd
        | some p =>
          rw [ep] at hd
          cases hd
          have hj : j < ps.length := (List.getElem?_eq_some_iff.mp ep).1
          have htk : (ps.take (j + 1)).foldl stepK (turnsK ps i [0]) = stepK ((ps.take j).foldl stepK (turnsK ps i [0])) p := by
            rw [List.take_add_one, ep, List.foldl_append]
            rfl
          rw [htk]
          generalize (ps.take j).foldl stepK (turnsK ps i [0]) = K at *
          refine ⟨[.fz (webP n ps), .fz (lstI K), t2, .fz (.int p.1), .fz (.int p.2)], rfl, ?_⟩
          have hsl := stepK_len K p
          refine wp_if (b := !(decide (p.1 ∈ K) == decide (p.2 ∈ K))) ?_ (fun hb => ?_) (fun hb => ?_)
          · simp [cNe_bool]
          · have e : ¬ decide (p.1 ∈ K) = decide (p.2 ∈ K) := by
              intro q
              rw [q] at hb
              simp at hb
            have es : stepK K p = K ++ [p.1, p.2] := if_neg e
            refine wp_set (d := lstI (K ++ [p.1, p.2])) ?_ ⟨_, _, _, by rw [es]; rfl, by omega⟩
            have o : opAdd (lstI K) (.list [.int p.1, .int p.2]) = .ok (.list (K.map .int ++ [.int p.1, .int p.2])) := opAdd_lst _ _ (by simp; omega)
            simp [o]
          · have e : decide (p.1 ∈ K) = decide (p.2 ∈ K) := by
              cases h1 : decide (p.1 ∈ K) <;> cases h2 : decide (p.2 ∈ K) <;> first | rfl | (rw [h1, h2] at hb; cases hb)
            have es : stepK K p = K := if_pos e
            exact wp_nx ⟨_, _, _, by rw [es], by rw [es]; omega⟩
      · rintro ρ ⟨t2, t3, t4, rfl, hl2⟩
        rw [List.length_map, List.length_map, List.take_length] at *
        exact ⟨_, _, _, rfl, by show (turnK ps (turnsK ps i [0])).length ≤ _; unfold turnK; omega⟩
    · rintro ρ ⟨s2, s3, s4, rfl, hl⟩
      rw [rngM_len] at *
      have o : lsetI (lstI (turnsK ps n.toNat [0])) = .ok (.int (upI (turnsK ps n.toNat [0])).length) := lsetI_ok (by omega)
      refine wp_ret (d := .bool (decide ((cnt (turnsK ps n.toNat [0]) : Int) = n) && decide ((ps.length : Int) = n - 1))) ?_ rfl
      unfold cnt
      simp [o, webL]
      by_cases q : ((upI (turnsK ps n.toNat [0])).length : Int) = n <;> simp [q]
  · rw [Bool.and_eq_true, decide_eq_true_eq, decide_eq_true_eq, hall]
    exact And.comm
/-! MsK1: slides. -/
def movedM (ms : List Int) (a b : Int) : List Int := sortZ (ms.filter (fun x => decide (x ≠ a)) ++ [b])
theorem moved_den (ms : List Int) (a b : Int) (hl : ms.length ≤ 1000) : d__law_moved [.fz (tupI ms), .fz (.int a), .fz (.int b)] = .ok (tupI (movedM ms a b)) := by
  refine wp_run [.fz (tupI ms), .fz (.int a), .fz (.int b), .nil] ?_
  refine wp_ret (d := tupI (movedM ms a b)) ?_ rfl
  have : lComp (iSeq (bVar 0)) (gN 3) (tCmp cNe (dVar 3) (dVar 1)) (dVar 3) [3] [.fz (tupI ms), .fz (.int a), .fz (.int b), .nil] = .ok ((ms.filter fun x => decide (x ≠ a)).map .int) := by
    refine lcomp_t (f := PyData.int) rfl rfl (by omega) fun x _ => ⟨_, rfl, ?_, fun _ => rfl⟩
    simp [wipeE]
  have hf := List.length_filter_le (fun x => decide (x ≠ a)) ms
  have o : opAdd (.list ((ms.filter fun x => decide (x ≠ a)).map .int)) (.list [.int b]) = .ok (.list ((ms.filter (fun x => decide (x ≠ a)) ++ [b]).map .int)) := by
    rw [opAdd_lst _ _ (by simp only [List.length_map, List.length_cons, List.length_nil]; omega)]
    simp
  have s : sortS (.fz (.list ((ms.filter (fun x => decide (x ≠ a)) ++ [b]).map .int))) = .ok ((movedM ms a b).map .int) := sortD_ints (by simp only [List.length_append, List.length_cons, List.length_nil]; omega)
  rw [dTuple_e, dLst_e, lSorted_e, bOf_e, dBin_e, dLst_e, this]
  simp only [Rs.bind_ok, dLst_e, lCons_e, lNil_e, dVar_e, List.getElem?_cons_succ, List.getElem?_cons_zero, o, s, tupD_l]
theorem snoc_filter {α β : Type} (l : List α) (b : α) (p : α → Bool) (f : α → β) : ((l ++ [b]).filter p).map f = (l.filter p).map f ++ (if p b = true then [f b] else []) := by
  rw [List.filter_append, List.map_append]
  congr 1
  by_cases q : p b = true
  · rw [List.filter_cons_of_pos q, if_pos q]; rfl
  · rw [List.filter_cons_of_neg q, if_neg q]; rfl
/-- the slides of the mark at a -/
def slidesAt (n : Int) (ps : List (Int × Int)) (ms : List Int) (a : Int) : List (Int × Int) := ((nbr ps a).filter fun b => !decide (b ∈ ms) && isMarks n ps (movedM ms a b)).map fun b => (a, b)
def slidesM (n : Int) (ps : List (Int × Int)) (ms : List Int) : List (Int × Int) := ms.flatMap (slidesAt n ps ms)
theorem moved_len (ms : List Int) (a b : Int) : (movedM ms a b).length ≤ ms.length + 1 := by
  unfold movedM
  rw [(sortZ_perm _).length_eq, List.length_append, List.length_singleton]
  have := List.length_filter_le (fun x => decide (x ≠ a)) ms
  omega
/-! MsK2: the law's slides are these. -/
theorem sortD_f {α : Type} {f : α → PyData} {xs : List α} (hl : xs.length ≤ 1000000) (hok : sortOk (xs.map f) = true) : sortD (xs.map f) = .ok ((xs.mergeSort (PySem.W.dataLe false f)).map f) := by
  unfold sortD
  rw [if_pos ⟨by rw [List.length_map]; exact hl, hok⟩]
  congr 1
  exact (List.map_mergeSort (f := f) (r := PySem.W.dataLe false f) (s := PySem.W.dataLe false id) fun a _ b _ => rfl).symm
theorem sortOk_f {α : Type} {f : α → PyData} {xs : List α} (hal : ∀ a ∈ xs, ∀ b ∈ xs, PySem.W.alike (f a) (f b) = true) (hk : (∀ a ∈ xs, isTupC (f a) = true) ∨ xs.length ≤ 1 ∧ ∀ a ∈ xs, f a ≠ .none) (hd : ∀ a ∈ xs, (f a).depth ≤ 20) : sortOk (xs.map f) = true := by
  unfold sortOk
  simp only [Bool.and_eq_true, Bool.or_eq_true]
  refine ⟨⟨?_, ?_⟩, ?_⟩
  · refine List.all_eq_true.mpr fun d h1 => List.all_eq_true.mpr fun d' h2 => ?_
    obtain ⟨a, ha, rfl⟩ := List.mem_map.mp h1
    obtain ⟨b, hb, rfl⟩ := List.mem_map.mp h2
    exact hal a ha b hb
  · rcases hk with h | ⟨h1, h2⟩
    · refine .inl (.inr (List.all_eq_true.mpr fun d h1 => ?_))
      obtain ⟨a, ha, rfl⟩ := List.mem_map.mp h1
      exact h a ha
    · refine .inl (.inl ⟨by rw [List.length_map, decide_eq_true_eq]; exact h1, List.all_eq_true.mpr fun d h3 => ?_⟩)
      obtain ⟨a, ha, rfl⟩ := List.mem_map.mp h3
      have := h2 a ha
      cases e : f a with
      | none => exact absurd e this
      | _ => rfl
  · refine List.all_eq_true.mpr fun d h1 => ?_
    obtain ⟨a, ha, rfl⟩ := List.mem_map.mp h1
    exact decide_eq_true (hd a ha)
def sortP (l : List (Int × Int)) : List (Int × Int) := l.mergeSort fun p q => decide (p.1 < q.1 ∨ p.1 = q.1 ∧ p.2 ≤ q.2)
theorem sortD_pairs {l : List (Int × Int)} (hl : l.length ≤ 1000000) : sortD (l.map prD) = .ok ((sortP l).map prD) := by
  rw [sortD_f hl (sortOk_f (fun a _ b _ => by simp [prD, PySem.W.alike, PySem.W.alikeAll]) (.inl fun _ _ => rfl) fun a _ => by simp [prD, PyData.depth, PyData.depthAll])]
  unfold sortP
  have : PySem.W.dataLe false prD = fun (p q : Int × Int) => decide (p.1 < q.1 ∨ p.1 = q.1 ∧ p.2 ≤ q.2) := PySem.W.dataLe_ii (fun p : Int × Int => p.1) (fun p => p.2)
  rw [this]
theorem sortP_perm (l : List (Int × Int)) : (sortP l).Perm l := List.mergeSort_perm _ _
theorem sortP_eq {l m : List (Int × Int)} (hl : l.Nodup) (hm : m.Pairwise ltP) (h : ∀ x, x ∈ l ↔ x ∈ m) : sortP l = m := by
  have h1 : (sortP l).Pairwise fun p q => p.1 < q.1 ∨ p.1 = q.1 ∧ p.2 ≤ q.2 := by
    have := List.pairwise_mergeSort (le := fun p q : Int × Int => decide (p.1 < q.1 ∨ p.1 = q.1 ∧ p.2 ≤ q.2)) (fun a b c h1 h2 => by simp at *; omega) (fun a b => by simp; omega) l
    exact this.imp fun h => of_decide_eq_true h
  have h2 : (sortP l).Nodup := (sortP_perm l).nodup_iff.mpr hl
  have h3 : (sortP l).Pairwise ltP := (h1.and (List.nodup_iff_pairwise_ne.mp h2)).imp fun {p q} ⟨q1, q2⟩ => by
    have : ¬ (p.1 = q.1 ∧ p.2 = q.2) := fun w => q2 (Prod.ext w.1 w.2)
    unfold ltP
    omega
  exact pw_unique (lt := ltP) ltP_asym h3 hm fun x => (sortP_perm l).mem_iff.trans (h x)

theorem moved_mem {ms : List Int} {a b x : Int} : x ∈ movedM ms a b ↔ x ∈ ms ∧ x ≠ a ∨ x = b := by
  unfold movedM
  rw [(sortZ_perm _).mem_iff, List.mem_append, List.mem_filter, decide_eq_true_eq, List.mem_singleton]
theorem moved_up {ms : List Int} {a b : Int} (h : Up ms) (hb : b ∉ ms) : Up (movedM ms a b) := by
  refine sortZ_up ?_
  rw [List.nodup_append]
  refine ⟨(Up.nodup h).filter _, by simp, fun x hx y hy => ?_⟩
  have : y = b := by simpa using hy
  subst this
  intro q
  subst q
  exact hb (List.mem_filter.mp hx).1
theorem moved_range {n : Int} {ms : List Int} {a b : Int} (h : ∀ s ∈ ms, 0 ≤ s ∧ s < n) (hb : 0 ≤ b ∧ b < n) : ∀ s ∈ movedM ms a b, 0 ≤ s ∧ s < n := fun s hs => by
  rcases moved_mem.mp hs with q | q
  · exact h s q.1
  · subst q; exact hb
theorem adj_range {n : Int} {ps : List (Int × Int)} (hw : InWeb n ps) {x y : Int} (h : Adj ps x y) : (0 ≤ x ∧ x < n) ∧ (0 ≤ y ∧ y < n) ∧ x ≠ y := by
  rcases h with h | h
  · have := hw _ h
    simp only at this
    omega
  · have := hw _ h
    simp only at this
    omega
/-- a slide -/
def Slide (ps : List (Int × Int)) (ms : List Int) (a b : Int) : Prop := a ∈ ms ∧ Adj ps a b ∧ b ∉ ms ∧ indep ps (movedM ms a b) = true
theorem slides_mem {n m : Int} {ps : List (Int × Int)} (h : GoodWeb n m ps) {ms : List Int} (hg : GoodMarks n ps ms) {p : Int × Int} : p ∈ slidesM n ps ms ↔ Slide ps ms p.1 p.2 := by
  unfold slidesM slidesAt Slide
  rw [List.mem_flatMap]
  constructor
  · rintro ⟨a, ha, h2⟩
    obtain ⟨b, hb, rfl⟩ := List.mem_map.mp h2
    obtain ⟨h3, h4⟩ := List.mem_filter.mp hb
    rw [Bool.and_eq_true, Bool.not_eq_true', decide_eq_false_iff_not] at h4
    have hA := nbr_mem.mp h3
    refine ⟨ha, hA, h4.1, ?_⟩
    have h5 := h4.2
    rwa [marks_up (moved_up hg.1 h4.1) (moved_range hg.2.1 (adj_range h.2.2.1 hA).2.1)] at h5
  · rintro ⟨h1, h2, h3, h4⟩
    refine ⟨p.1, h1, List.mem_map.mpr ⟨p.2, List.mem_filter.mpr ⟨nbr_mem.mpr h2, ?_⟩, rfl⟩⟩
    rw [Bool.and_eq_true, Bool.not_eq_true', decide_eq_false_iff_not]
    refine ⟨h3, ?_⟩
    rw [marks_up (moved_up hg.1 h3) (moved_range hg.2.1 (adj_range h.2.2.1 h2).2.1)]
    exact h4
theorem slides_pw {n m : Int} {ps : List (Int × Int)} (h : GoodWeb n m ps) {ms : List Int} (hu : Up ms) : (slidesM n ps ms).Pairwise ltP := by
  unfold slidesM slidesAt
  rw [List.pairwise_flatMap]
  refine ⟨fun a _ => ?_, ?_⟩
  · rw [List.pairwise_map]
    refine List.Pairwise.filter _ ?_
    exact (nbr_up h.2.2.2.1 (fun q hq => (h.2.2.1 q hq).2.1) a).imp fun q => .inr ⟨rfl, q⟩
  · refine hu.imp fun {a b} hab x hx y hy => ?_
    obtain ⟨_, _, rfl⟩ := List.mem_map.mp hx
    obtain ⟨_, _, rfl⟩ := List.mem_map.mp hy
    exact .inl hab
/-- both ends of a line -/
def endsL (p : Int × Int) : List (Int × Int) := [(p.1, p.2), (p.2, p.1)]
def lawOk (ps : List (Int × Int)) (ms : List Int) (p : Int × Int) : Bool := decide (p.1 ∈ ms) && (!decide (p.2 ∈ ms) && indep ps (movedM ms p.1 p.2))
theorem law_slides_list {n m : Int} {ps : List (Int × Int)} (h : GoodWeb n m ps) {ms : List Int} (hg : GoodMarks n ps ms) : sortP (ps.flatMap fun p => (endsL p).filter (lawOk ps ms)) = slidesM n ps ms := by
  refine sortP_eq ?_ (slides_pw h hg.1) fun p => ?_
  · unfold List.Nodup
    rw [List.pairwise_flatMap]
    refine ⟨fun p hp => ?_, ?_⟩
    · refine List.Pairwise.filter _ ?_
      have := h.2.2.1 p hp
      unfold endsL
      rw [List.pairwise_cons]
      refine ⟨fun q hq => ?_, List.pairwise_singleton _ _⟩
      have : q = (p.2, p.1) := by simpa using hq
      subst this
      intro e
      have := congrArg Prod.fst e
      simp only at this
      omega
    · refine List.Pairwise.imp_of_mem ?_ h.2.2.2.1
      intro p q hp hq hpq x hx y hy e
      subst e
      have h1 := h.2.2.1 p hp
      have h2 := h.2.2.1 q hq
      have m1 := (List.mem_filter.mp hx).1
      have m2 := (List.mem_filter.mp hy).1
      unfold endsL at m1 m2
      simp only [List.mem_cons, List.not_mem_nil, or_false] at m1 m2
      unfold ltP at hpq
      rcases m1 with rfl | rfl <;> rcases m2 with e | e <;> (have e1 := congrArg Prod.fst e; have e2 := congrArg Prod.snd e; simp only at e1 e2; omega)
  · rw [slides_mem h hg, List.mem_flatMap]
    unfold Slide
    constructor
    · rintro ⟨q, hq, hp⟩
      obtain ⟨h1, h2⟩ := List.mem_filter.mp hp
      unfold lawOk at h2
      rw [Bool.and_eq_true, Bool.and_eq_true, Bool.not_eq_true', decide_eq_false_iff_not, decide_eq_true_eq] at h2
      refine ⟨h2.1, ?_, h2.2.1, h2.2.2⟩
      unfold endsL at h1
      simp only [List.mem_cons, List.not_mem_nil, or_false] at h1
      rcases h1 with rfl | rfl
      · exact .inl hq
      · exact .inr hq
    · rintro ⟨h1, h2, h3, h4⟩
      have hk : lawOk ps ms p = true := by
        unfold lawOk
        rw [Bool.and_eq_true, Bool.and_eq_true, Bool.not_eq_true', decide_eq_false_iff_not, decide_eq_true_eq]
        exact ⟨h1, h3, h4⟩
      rcases h2 with q | q
      · exact ⟨_, q, List.mem_filter.mpr ⟨by unfold endsL; simp, hk⟩⟩
      · exact ⟨_, q, List.mem_filter.mpr ⟨by unfold endsL; simp, hk⟩⟩
theorem law_slides_den {n m : Int} {ps : List (Int × Int)} (h : GoodWeb n m ps) (hm : m ≤ 12) {ms : List Int} (hg : GoodMarks n ps ms) (hl : ms.length ≤ 50) : d__law_slides [.fz (webP n ps), .fz (tupI ms)] = .ok (.list ((slidesM n ps ms).map prD)) := by
  rw [← law_slides_list h hg]
  obtain ⟨g1, g2, g3, g4, g5⟩ := h
  generalize hF : (fun p => (endsL p).filter (lawOk ps ms)) = F
  have hFl : ∀ p, (F p).length ≤ 2 := fun p => by
    rw [← hF]
    exact Nat.le_trans (List.length_filter_le _ _) (by simp [endsL])
  refine wp_run [.fz (webP n ps), .fz (tupI ms), .nil, .nil, .nil, .nil, .nil] ?_
  refine wp_seq (wp_own (ds := []) rfl ?_)
  refine wp_seq (wp_for (ds := ps.map prD) (by simp [webP_eq]) (fun i ρ => ∃ s3 s4 s5 s6, ρ = [.fz (webP n ps), .fz (tupI ms), .ow (((ps.take i).flatMap F).map prD), s3, s4, s5, s6]) ⟨_, _, _, _, rfl⟩ ?_ ?_)
  · rintro i d ρ hd ⟨s3, s4, s5, s6, rfl⟩
    rw [List.getElem?_map] at hd
    cases ea : ps[i]? with
    | none => rw [ea] at hd; cases hd
    | some p =>
      rw [ea] at hd
      cases hd
      have hacc : ((ps.take i).flatMap F).length ≤ 200 := by
        have h1 := flat_len (f := F) (c := 2) (l := ps.take i) fun x _ => hFl x
        have h2 : (ps.take i).length ≤ 60 := by rw [List.length_take]; omega
        omega
      refine ⟨_, rfl, ?_⟩
      refine wp_for (ds := (endsL p).map prD) rfl (fun j ρ => ∃ s5 s6, ρ = [.fz (webP n ps), .fz (tupI ms), .ow (((ps.take i).flatMap F ++ ((endsL p).take j).filter (lawOk ps ms)).map prD), .fz (.int p.1), .fz (.int p.2), s5, s6]) ⟨s5, s6, by simp [setAll]⟩ ?_ ?_
      · rintro j d ρ hd ⟨t5, t6, rfl⟩
        rw [List.getElem?_map] at hd
        cases eb : (endsL p)[j]? with
        | none => rw [eb] at hd; cases hd
        | some q =>
          rw [eb] at hd
          cases hd
          obtain ⟨x, y⟩ := q
          have hmv := moved_den ms x y (by omega)
          have hml := moved_len ms x y
          have him := law_is_marks_den n ps (movedM ms x y) (by omega)
          have htk : (endsL p).take (j + 1) = (endsL p).take j ++ [(x, y)] := by rw [List.take_add_one, eb]; rfl
          have hfl : (((endsL p).take j).filter (lawOk ps ms)).length ≤ 2 := Nat.le_trans (List.length_filter_le _ _) (by rw [List.length_take]; simp [endsL]; omega)
          refine ⟨_, rfl, ?_⟩
          rw [htk, List.filter_append]
          generalize ((endsL p).take j).filter (lawOk ps ms) = got at hfl ⊢
          refine wp_if (b := lawOk ps ms (x, y)) ?_ (fun q => ?_) (fun q => ?_)
          · unfold lawOk
            simp [setAll, prD, hmv, him]
            by_cases q1 : x ∈ ms <;> by_cases q2 : y ∈ ms <;> simp [q1, q2]
          · refine wp_app (ds := ((ps.take i).flatMap F ++ got).map prD) (d := prD (x, y)) rfl rfl (by rw [List.length_map, List.length_append]; omega) ⟨.fz (.int x), .fz (.int y), ?_⟩
            rw [List.filter_cons_of_pos q, ← List.append_assoc, List.map_append (l₂ := List.filter _ [] |>.cons (x, y))]
            rfl
          · refine wp_nx ⟨.fz (.int x), .fz (.int y), ?_⟩
            rw [List.filter_cons_of_neg (by rw [q]; exact Bool.false_ne_true), List.filter_nil, List.append_nil]
            rfl
      · rintro ρ ⟨t5, t6, rfl⟩
        rw [List.length_map, List.take_length]
        refine ⟨.fz (.int p.1), .fz (.int p.2), t5, t6, ?_⟩
        rw [take_flat _ ea, ← hF]
  · rintro ρ ⟨s3, s4, s5, s6, rfl⟩
    rw [List.length_map, List.take_length]
    have hacc : (ps.flatMap F).length ≤ 200 := by
      have h1 := flat_len (f := F) (c := 2) (l := ps) fun x _ => hFl x
      omega
    refine wp_ret (d := .list ((sortP (ps.flatMap F)).map prD)) ?_ rfl
    have o : sortS (.ow ((ps.flatMap F).map prD)) = .ok ((sortP (ps.flatMap F)).map prD) := sortD_pairs (by omega)
    simp [o]
/-! MsK3: what is reached; the new ones of a row; the bounds. -/
theorem moved_length {ms : List Int} {a b : Int} (h : Up ms) (ha : a ∈ ms) : (movedM ms a b).length = ms.length := by
  unfold movedM
  rw [(sortZ_perm _).length_eq, List.length_append, List.length_singleton]
  have h1 : (ms.filter fun x => decide (x ≠ a)) = ms.erase a := by
    rw [(Up.nodup h).erase_eq_filter]
    congr 1
    funext x
    by_cases q : x = a <;> simp [q]
  rw [h1, List.length_erase_of_mem ha]
  have := List.length_pos_of_mem ha
  omega
theorem slide_good {n m : Int} {ps : List (Int × Int)} (h : GoodWeb n m ps) {ms : List Int} (hg : GoodMarks n ps ms) {a b : Int} (hs : Slide ps ms a b) : GoodMarks n ps (movedM ms a b) :=
  ⟨moved_up hg.1 hs.2.2.1, moved_range hg.2.1 (adj_range h.2.2.1 hs.2.1).2.1, hs.2.2.2⟩
/-- to these one comes -/
inductive Rm (ps : List (Int × Int)) (ms : List Int) : List Int → Prop
  | refl : Rm ps ms ms
  | step {x : List Int} {a b : Int} : Rm ps ms x → Slide ps x a b → Rm ps ms (movedM x a b)
theorem Rm.good {n m : Int} {ps : List (Int × Int)} (h : GoodWeb n m ps) {ms x : List Int} (hg : GoodMarks n ps ms) (r : Rm ps ms x) : GoodMarks n ps x ∧ x.length = ms.length := by
  induction r with
  | refl => exact ⟨hg, rfl⟩
  | step _ hs ih => exact ⟨slide_good h ih.1 hs, (moved_length ih.1.1 hs.1).trans ih.2⟩
theorem Rm.trans {ps : List (Int × Int)} {ms x y : List Int} (r : Rm ps ms x) (r' : Rm ps x y) : Rm ps ms y := by
  induction r' with
  | refl => exact r
  | step _ hs ih => exact .step ih hs
def goalsM (n : Int) (ps : List (Int × Int)) (x : List Int) : List (List Int) := (slidesM n ps x).map fun p => movedM x p.1 p.2
theorem goals_mem {n m : Int} {ps : List (Int × Int)} (h : GoodWeb n m ps) {ms : List Int} (hg : GoodMarks n ps ms) {g : List Int} : g ∈ goalsM n ps ms ↔ ∃ a b, Slide ps ms a b ∧ g = movedM ms a b := by
  unfold goalsM
  rw [List.mem_map]
  constructor
  · rintro ⟨p, hp, rfl⟩
    exact ⟨p.1, p.2, (slides_mem h hg).mp hp, rfl⟩
  · rintro ⟨a, b, hs, rfl⟩
    exact ⟨(a, b), (slides_mem h hg).mpr hs, rfl⟩

/-! ### the new ones of a row -/
section
variable {α β : Type} [DecidableEq β] (key : α → β) (K : List β)
def newsGo (N : List α) : List α → List α
  | [] => N
  | c :: cs => newsGo (if key c ∈ K ++ N.map key then N else N ++ [c]) cs
def newsBy (cs : List α) : List α := newsGo key K [] cs
variable {key K}
theorem newsGo_app : ∀ (cs ds : List α) (N : List α), newsGo key K N (cs ++ ds) = newsGo key K (newsGo key K N cs) ds
  | [], _, _ => rfl
  | c :: cs, ds, N => newsGo_app cs ds _
theorem newsBy_snoc (cs : List α) (c : α) : newsBy key K (cs ++ [c]) = if key c ∈ K ++ (newsBy key K cs).map key then newsBy key K cs else newsBy key K cs ++ [c] := newsGo_app cs [c] []
theorem newsGo_sub : ∀ {cs : List α} {N : List α} {c : α}, c ∈ newsGo key K N cs → c ∈ N ∨ c ∈ cs
  | [], _, _, h => .inl h
  | d :: cs, N, c, h => by
    rcases newsGo_sub (cs := cs) h with q | q
    · split at q
      · exact .inl q
      · rcases List.mem_append.mp q with r | r
        · exact .inl r
        · exact .inr (by simp at r; subst r; exact List.mem_cons_self)
    · exact .inr (List.mem_cons_of_mem _ q)
theorem newsBy_sub {cs : List α} {c : α} (h : c ∈ newsBy key K cs) : c ∈ cs := by
  rcases newsGo_sub h with q | q
  · cases q
  · exact q
theorem newsGo_nodup : ∀ {cs : List α} {N : List α}, (K ++ N.map key).Nodup → (K ++ (newsGo key K N cs).map key).Nodup
  | [], _, h => h
  | d :: cs, N, h => by
    refine newsGo_nodup (cs := cs) ?_
    split
    · exact h
    · rename_i q
      rw [List.map_append, ← List.append_assoc, List.nodup_append]
      refine ⟨h, by simp, fun a ha b hb e => ?_⟩
      subst e
      have : a = key d := by simpa using hb
      subst this
      exact q ha
theorem newsBy_nodup {cs : List α} (h : K.Nodup) : (K ++ (newsBy key K cs).map key).Nodup := newsGo_nodup (by simpa using h)
theorem newsGo_keep : ∀ {cs : List α} {N : List α} {x : β}, x ∈ K ++ N.map key → x ∈ K ++ (newsGo key K N cs).map key
  | [], _, _, h => h
  | d :: cs, N, x, h => by
    refine newsGo_keep (cs := cs) ?_
    split
    · exact h
    · rw [List.map_append, ← List.append_assoc]
      exact List.mem_append_left _ h
theorem newsGo_all : ∀ {cs : List α} {N : List α} {c : α}, c ∈ cs → key c ∈ K ++ (newsGo key K N cs).map key
  | d :: cs, N, c, h => by
    rcases List.mem_cons.mp h with rfl | h
    · refine newsGo_keep (cs := cs) ?_
      split
      · assumption
      · rw [List.map_append, ← List.append_assoc]
        exact List.mem_append_right _ (by simp)
    · exact newsGo_all (cs := cs) h
theorem newsBy_all {cs : List α} {c : α} (h : c ∈ cs) : key c ∈ K ++ (newsBy key K cs).map key := newsGo_all h
end

/-! ### the bound -/
theorem sets_all {n : Int} : ∀ {m : List Int}, Up m → (∀ s ∈ m, 0 ≤ s ∧ s < n) → m ∈ setsM n m.length := by
  intro m
  induction hl : m.length generalizing m with
  | zero =>
    intro _ _
    have : m = [] := List.eq_nil_of_length_eq_zero hl
    subst this
    simp [setsM]
  | succ k ih =>
    intro hu hr
    rcases List.eq_nil_or_concat m with rfl | ⟨r, y, rfl⟩
    · simp at hl
    · rw [List.concat_eq_append] at *
      have hlr : r.length = k := by simpa using hl
      have hp := List.pairwise_append.mp hu
      have hur : Up r := hp.1
      have h1 := ih hlr hur fun s hs => hr s (List.mem_append_left _ hs)
      refine List.mem_flatMap.mpr ⟨r, h1, List.mem_map.mpr ⟨y, List.mem_filter.mpr ⟨rngZ_mem.mpr (hr y (by simp)), ?_⟩, rfl⟩⟩
      rw [Bool.or_eq_true, decide_eq_true_eq, decide_eq_true_eq]
      rcases List.eq_nil_or_concat r with rfl | ⟨r', z, rfl⟩
      · exact .inl rfl
      · rw [List.concat_eq_append] at *
        right
        have := hp.2.2 z (by simp) y (by simp)
        unfold first
        simp
        omega
theorem known_le {n : Int} {k : Nat} (hn : n ≤ 12) (hk : k ≤ 4) {K : List (List Int)} (hK : K.Nodup) (h : ∀ x ∈ K, Up x ∧ (∀ s ∈ x, 0 ≤ s ∧ s < n) ∧ x.length = k) : K.length ≤ 20736 := by
  have h1 : K.length ≤ (setsM n k).length := List.Nodup.length_le_of_subset hK fun x hx => by
    obtain ⟨q1, q2, q3⟩ := h x hx
    rw [← q3]
    exact sets_all q1 q2
  have h2 := setsM_len (n := n) hn k
  have h3 : 12 ^ k ≤ 12 ^ 4 := Nat.pow_le_pow_right (by decide) hk
  have : 12 ^ 4 = 20736 := by decide
  omega

/-! ### sorted marks -/
def sortT (l : List (List Int)) : List (List Int) := l.mergeSort fun a b => decide (a ≤ b)
theorem sortT_perm (l : List (List Int)) : (sortT l).Perm l := List.mergeSort_perm _ _
theorem sortT_le (l : List (List Int)) : (sortT l).Pairwise fun a b => a ≤ b := by
  have := List.pairwise_mergeSort (le := fun a b : List Int => decide (a ≤ b)) (fun a b c h1 h2 => by
    simp only [decide_eq_true_eq] at *
    exact List.le_trans h1 h2) (fun a b => by
    simp only [Bool.or_eq_true, decide_eq_true_eq]
    exact List.le_total a b) l
  exact this.imp fun h => of_decide_eq_true h
theorem sortT_eq {l m : List (List Int)} (h : l.Perm m) : sortT l = sortT m :=
  List.Perm.eq_of_pairwise (le := fun a b => a ≤ b) (fun a b _ _ h1 h2 => List.le_antisymm h1 h2) (sortT_le l) (sortT_le m) ((sortT_perm l).trans (h.trans (sortT_perm m).symm))
theorem depth_tupI (l : List Int) : (tupI l).depth ≤ 2 := (sh_tupI l).2
theorem dataLe_tupI : PySem.W.dataLe false tupI = fun (p q : List Int) => decide (p ≤ q) := by
  funext p q
  show (!PySem.W.dataLt (.tuple (q.map .int)) (.tuple (p.map .int))) = _
  rw [PySem.W.dataLt_tuple]
  show (!PySem.W.rowLt (q.map .int) (p.map .int)) = _
  rw [PySem.W.dataLt_ints]
  by_cases h : q < p
  · have h' : ¬ p ≤ q := fun r => List.not_lt.mpr r h
    simp [h, h']
  · have h' : p ≤ q := List.not_lt.mp h
    simp [h, h']
theorem sortD_tups {l : List (List Int)} (hl : l.length ≤ 1000000) {k : Nat} (hk : ∀ x ∈ l, x.length = k) (hn : l.Nodup) : sortD (l.map tupI) = .ok ((sortT l).map tupI) := by
  rw [sortD_f hl (sortOk_f (fun a _ b _ => by simp [PySem.W.alike, PySem.W.alike_ints]) ?_ fun a _ => by have := depth_tupI a; omega)]
  · unfold sortT
    rw [dataLe_tupI]
  · by_cases h0 : k = 0
    · refine .inr ⟨?_, fun _ _ e => by cases e⟩
      have : ∀ x ∈ l, x ∈ [([] : List Int)] := fun x hx => by
        have := hk x hx
        rw [h0] at this
        rw [List.eq_nil_of_length_eq_zero this]
        simp
      exact List.Nodup.length_le_of_subset hn this
    · refine .inl fun a ha => ?_
      have := hk a ha
      match a, this with
      | [], q => exact absurd q.symm h0
      | x :: r, _ => rfl

/-! ### small rules -/
theorem eqv_tup_any (x : List Int) (l : List (List Int)) : inAny (tupI x) (l.map tupI) = decide (x ∈ l) := by
  unfold inAny
  rw [List.any_map]
  induction l with
  | nil => rfl
  | cons m ms ih =>
    rw [List.any_cons, ih]
    show (PyData.eqv (tupI m) (tupI x) || _) = _
    rw [eqv_tupI]
    by_cases h : m = x
    · subst h; simp
    · simp [h, Ne.symm h]
@[simp] theorem cIn_lsT (x : List Int) (l : List (List Int)) : cIn (.tuple (x.map .int)) (.fz (.list (l.map tupI))) = .ok (decide (x ∈ l)) := by
  unfold cIn
  simp only []
  rw [if_pos ⟨sh_of (sh_tupI x), sh_of (sh_listT l)⟩]
  congr 1
  exact eqv_tup_any x l
@[simp] theorem cIn_owT (x : List Int) (l : List (List Int)) : cIn (.tuple (x.map .int)) (.ow (l.map tupI)) = .ok (decide (x ∈ l)) := by
  unfold cIn
  simp only []
  rw [if_pos ⟨sh_of (sh_tupI x), sh_of (sh_listT l)⟩]
  congr 1
  exact eqv_tup_any x l
@[simp] theorem cIn_dc (x : List Int) (kvs : List (List Int × PyData)) : cIn (.tuple (x.map .int)) (.dc kvs) = .ok (decide (x ∈ kvs.map (·.1))) := by
  unfold cIn
  simp only [ints_map]
  congr 1
  rw [Bool.eq_iff_iff, List.any_eq_true, decide_eq_true_eq, List.mem_map]
  simp
theorem putT_new {kvs : List (List Int × PyData)} {k : List Int} {v : PyData} (h : k ∉ kvs.map (·.1)) : putT kvs k v = kvs ++ [(k, v)] := by
  unfold putT
  rw [if_neg]
  rw [List.any_eq_true]
  rintro ⟨p, hp, q⟩
  exact h (List.mem_map.mpr ⟨p, hp, of_decide_eq_true q⟩)
@[simp] theorem tkey_t (x : List Int) : tkey (.tuple (x.map .int)) = .ok x := by
  unfold tkey
  simp only [ints_map]
  rfl
section
variable {N : Env → Prop} {R : Ou → Prop} {ρ : Env}
theorem wp_dput {i : Nat} {k v : DE} {kvs : List (List Int × PyData)} {x y : PyData} {ns : List Int} (hi : ρ[i]? = some (.dc kvs)) (hv : v ρ = .ok y) (hk : k ρ = .ok x) (hx : tkey x = .ok ns) (hl : kvs.length < 1000000) (h : N (ρ.set i (.dc (putT kvs ns y)))) : W (sDput i k v ρ) N R := by
  unfold sDput; rw [hi]; simp only [hv, hk, hx, bE_ok]; rw [if_pos (show kvs.length < lim from hl)]; exact h
theorem wp_dic1 {i : Nat} {k v : DE} {x y : PyData} {ns : List Int} (hk : k ρ = .ok x) (hv : v ρ = .ok y) (hx : tkey x = .ok ns) (h : N (ρ.set i (.dc [(ns, y)]))) : W (sDic1 i k v ρ) N R := by
  unfold sDic1; simp only [hk, hv, hx, bE_ok]; exact h
theorem wp_pop {j i : Nat} {ds : List PyData} {d : PyData} (hi : ρ[i]? = some (.ow ds)) (hd : ds.getLast? = some d) (h : N ((ρ.set i (.ow ds.dropLast)).set j (.fz d))) : W (sPop j i ρ) N R := by
  unfold sPop; rw [hi]; simp only [hd]; exact h
end
/-! MsK4: the room. -/
theorem rm_shut {n m : Int} {ps : List (Int × Int)} (h : GoodWeb n m ps) {ms : List Int} (hg : GoodMarks n ps ms) {K : List (List Int)} (h0 : ms ∈ K) (hr : ∀ x ∈ K, Rm ps ms x) (hs : ∀ x ∈ K, ∀ g ∈ goalsM n ps x, g ∈ K) : ∀ x, x ∈ K ↔ Rm ps ms x := fun x => by
  refine ⟨hr x, fun r => ?_⟩
  induction r with
  | refl => exact h0
  | step r1 hsl ih => exact hs _ ih _ ((goals_mem h (r1.good h hg).1).mpr ⟨_, _, hsl, rfl⟩)
/-- the room, in no turn -/
def IsRm (ps : List (Int × Int)) (ms : List Int) (K : List (List Int)) : Prop := K.Nodup ∧ ∀ x, x ∈ K ↔ Rm ps ms x
theorem IsRm.perm {ps : List (Int × Int)} {ms : List Int} {K L : List (List Int)} (h : IsRm ps ms K) (k : IsRm ps ms L) : K.Perm L := (List.perm_ext_iff_of_nodup h.1 k.1).mpr fun x => (h.2 x).trans (k.2 x).symm
theorem IsRm.sorted {ps : List (Int × Int)} {ms : List Int} {K : List (List Int)} (h : IsRm ps ms K) : IsRm ps ms (sortT K) := ⟨(sortT_perm K).nodup_iff.mpr h.1, fun x => (sortT_perm K).mem_iff.trans (h.2 x)⟩
def newsT (K : List (List Int)) (cs : List (List Int)) : List (List Int) := newsBy id K cs
theorem newsT_snoc (K cs : List (List Int)) (c : List Int) : newsT K (cs ++ [c]) = if c ∈ K ++ newsT K cs then newsT K cs else newsT K cs ++ [c] := by
  have := newsBy_snoc (key := id) (K := K) cs c
  rw [List.map_id] at this
  by_cases q : c ∈ K ++ newsT K cs
  · rw [if_pos q]; exact this.trans (if_pos q)
  · rw [if_neg q]; exact this.trans (if_neg q)
theorem newsT_sub {K cs : List (List Int)} {c : List Int} (h : c ∈ newsT K cs) : c ∈ cs := newsBy_sub h
theorem newsT_nodup {K cs : List (List Int)} (h : K.Nodup) : (K ++ newsT K cs).Nodup := by
  have := newsBy_nodup (key := id) (cs := cs) h
  rwa [List.map_id] at this
theorem newsT_all {K cs : List (List Int)} {c : List Int} (h : c ∈ cs) : c ∈ K ++ newsT K cs := by
  have := newsBy_all (key := id) (K := K) h
  rwa [List.map_id] at this
def kvT (K : List (List Int)) : List (List Int × PyData) := K.map fun m => (m, PyData.bool true)
theorem kvT_keys (K : List (List Int)) : (kvT K).map (·.1) = K := by
  unfold kvT
  rw [List.map_map]
  exact List.map_id' K
theorem goals_at {n : Int} {ps : List (Int × Int)} {x : List Int} {j : Nat} {p : Int × Int} (h : (slidesM n ps x)[j]? = some p) : (goalsM n ps x).take (j + 1) = (goalsM n ps x).take j ++ [movedM x p.1 p.2] := by
  unfold goalsM
  rw [List.take_add_one, List.getElem?_map, h]
  rfl
section
variable {n m : Int} {ps : List (Int × Int)} (h : GoodWeb n m ps) (hm : m ≤ 12) {ms : List Int} (hg : GoodMarks n ps ms) (hl : ms.length ≤ 4)
include h hm hg hl
theorem rm_le {K : List (List Int)} (hK : K.Nodup) (hr : ∀ x ∈ K, Rm ps ms x) : K.length ≤ 20736 :=
  known_le (n := n) (by have := h.2.1; omega) hl hK fun x hx => by
    have := (hr x hx).good h hg
    exact ⟨this.1.1, this.1.2.1, this.2⟩
theorem rm_news {K : List (List Int)} (hr : ∀ x ∈ K, Rm ps ms x) {here : List Int} (hh : here ∈ K) (j : Nat) : ∀ x ∈ K ++ newsT K ((goalsM n ps here).take j), Rm ps ms x := fun x hx => by
  rcases List.mem_append.mp hx with q | q
  · exact hr x q
  · have h1 := hr here hh
    obtain ⟨a, b, hs, rfl⟩ := (goals_mem h (h1.good h hg).1).mp (List.mem_of_mem_take (newsT_sub q))
    exact .step h1 hs
theorem look_good : d_look_marks [.fz (webP n ps), .fz (tupI ms)] = .ok .none := by
  rw [look_marks_den n ps ms (good_ok h hm) (by have := h.2.2.2.2; omega) (by omega), marks_up hg.1 hg.2.1, hg.2.2]
  rfl
end
/-! MsK5: the law's room. -/
section
variable {n m : Int} {ps : List (Int × Int)} (h : GoodWeb n m ps) (hm : m ≤ 12) {ms : List Int} (hg : GoodMarks n ps ms) (hl : ms.length ≤ 4)
include h hm hg hl
theorem law_room_den : ∃ K, IsRm ps ms K ∧ d__law_room [.fz (webP n ps), .fz (tupI ms)] = .ok (.list ((sortT K).map tupI)) := by
  refine run_ex (Q := fun r => ∃ K, IsRm ps ms K ∧ r = .ok (.list ((sortT K).map tupI))) [.fz (webP n ps), .fz (tupI ms), .nil, .nil, .nil, .nil, .nil] ?_
  refine wp_seq (wp_own (ds := [tupI ms]) rfl ?_)
  refine wp_seq (wp_set (d := .int 0) rfl ?_)
  refine wp_seq (wp_while (fun z ρ => ∃ (K : List (List Int)) (c : Nat) (s4 s5 s6 : Sl), ρ = [.fz (webP n ps), .fz (tupI ms), .ow (K.map tupI), .fz (.int c), s4, s5, s6] ∧ K.Nodup ∧ ms ∈ K ∧ (∀ x ∈ K, Rm ps ms x) ∧ c ≤ K.length ∧ (∀ i x, i < c → K[i]? = some x → ∀ g ∈ goalsM n ps x, g ∈ K) ∧ z = 20736 - c) (m := 20736) (by decide) ⟨[ms], 0, _, _, _, rfl, by simp, by simp, fun x hx => ?_, by simp, fun i x hi => absurd hi (by omega), rfl⟩ ?_)
  · have : x = ms := by simpa using hx
    subst this
    exact .refl
  rintro z ρ ⟨K, c, s4, s5, s6, rfl, k1, k2, k3, k4, k5, rfl⟩
  have hlK := rm_le h hm hg hl k1 k3
  by_cases hc : c < K.length
  · right
    refine ⟨by simp [hc], ?_⟩
    have eh : K[c]? = some K[c] := List.getElem?_eq_getElem hc
    have hh : K[c] ∈ K := List.getElem_mem hc
    generalize K[c] = here at eh hh
    have hgh := (k3 here hh).good h hg
    have hsl := law_slides_den h hm (ms := here) hgh.1 (by omega)
    have hle : ∀ j, (K ++ newsT K ((goalsM n ps here).take j)).length ≤ 20736 := fun j => rm_le h hm hg hl (newsT_nodup k1) (rm_news h hm hg hl k3 hh j)
    have eN : ∀ N : List (List Int), (K ++ N)[c]? = some here := fun N => by rw [List.getElem?_append_left hc]; exact eh
    refine wp_seq (wp_for (ds := (slidesM n ps here).map prD) (by simp [eh, hsl]) (fun j ρ => ∃ s4 s5 s6, ρ = [.fz (webP n ps), .fz (tupI ms), .ow ((K ++ newsT K ((goalsM n ps here).take j)).map tupI), .fz (.int c), s4, s5, s6]) ⟨s4, s5, s6, ?_⟩ ?_ ?_)
    · simp [newsT, newsBy, newsGo]
    · rintro j d ρ hd ⟨t4, t5, t6, rfl⟩
      rw [List.getElem?_map] at hd
      cases ea : (slidesM n ps here)[j]? with
      | none => rw [ea] at hd; cases hd
      | some p =>
        rw [ea] at hd
        cases hd
        obtain ⟨a, b⟩ := p
        have hmv := moved_den here a b (by omega)
        have hlj := hle j
        rw [List.length_append] at hlj
        rw [goals_at ea, newsT_snoc]
        generalize newsT K ((goalsM n ps here).take j) = N at hlj ⊢
        have eh' := eN N
        have ec : ((K ++ N).map tupI)[c]? = some (tupI here) := by rw [List.getElem?_map, eh']; rfl
        generalize hKN : K ++ N = KN at ec
        refine ⟨_, rfl, ?_⟩
        refine wp_seq (wp_set (d := tupI (movedM here a b)) (by simp only [setAll, prD, List.set_cons_succ, List.set_cons_zero, dCall_e, saCons_e, saNil_e, bOf_e, dIx_e, bVar_e, dVar_e, List.getElem?_cons_succ, List.getElem?_cons_zero, Rs.bind_ok, ixS_o, atD_nat, ec, ofO_some, frzS_f, hmv]) ?_)
        refine wp_if (b := !decide (movedM here a b ∈ KN)) ?_ (fun q => ?_) (fun q => ?_)
        · simp only [setAll, prD, List.set_cons_succ, List.set_cons_zero, tNin_e, dVar_e, bVar_e, List.getElem?_cons_succ, List.getElem?_cons_zero, Rs.bind_ok, cIn_owT]
        · have q' : movedM here a b ∉ KN := by rw [Bool.not_eq_true'] at q; exact of_decide_eq_false q
          rw [if_neg q']
          refine wp_app (ds := KN.map tupI) (d := tupI (movedM here a b)) rfl rfl (by rw [List.length_map, ← hKN, List.length_append]; omega) ⟨.fz (.int a), .fz (.int b), .fz (tupI (movedM here a b)), ?_⟩
          rw [← List.append_assoc, hKN, List.map_append (l₂ := [movedM here a b])]
          rfl
        · have q' : movedM here a b ∈ KN := by rw [Bool.not_eq_false'] at q; exact of_decide_eq_true q
          rw [if_pos q', hKN]
          exact wp_nx ⟨.fz (.int a), .fz (.int b), .fz (tupI (movedM here a b)), rfl⟩
    · rintro ρ ⟨t4, t5, t6, rfl⟩
      have hgl : (goalsM n ps here).length = ((slidesM n ps here).map prD).length := by unfold goalsM; rw [List.length_map, List.length_map]
      rw [← hgl, List.take_length]
      have kn := newsT_nodup (cs := goalsM n ps here) k1
      have kr := rm_news h hm hg hl k3 hh (goalsM n ps here).length
      rw [List.take_length] at kr
      refine wp_set (d := .int ((c : Int) + 1)) rfl ⟨_, ?_, K ++ newsT K (goalsM n ps here), c + 1, t4, t5, t6, by simp, kn, List.mem_append_left _ k2, kr, ?_, fun i x hi hx g hgg => ?_, rfl⟩
      · omega
      · rw [List.length_append]
        omega
      · rw [List.getElem?_append_left (by omega)] at hx
        by_cases q : i < c
        · exact List.mem_append_left _ (k5 i x q hx g hgg)
        · have : i = c := by omega
          subst this
          rw [eh] at hx
          cases hx
          exact newsT_all hgg
  · left
    refine ⟨by simp [hc], ?_⟩
    have hK : IsRm ps ms K := ⟨k1, rm_shut h hg k2 k3 fun x hx => by
      obtain ⟨i, hi, rfl⟩ := List.mem_iff_getElem.mp hx
      exact k5 i _ (by omega) (List.getElem?_eq_getElem hi)⟩
    refine wp_ret (d := .list ((sortT K).map tupI)) ?_ ⟨K, hK, rfl⟩
    have o : sortS (.ow (K.map tupI)) = .ok ((sortT K).map tupI) := sortD_tups (by omega) (fun x hx => ((k3 x hx).good h hg).2) k1
    simp [o]
end
end MS

/-! MsF1: marks on a forest, plainly: sets of spots, slides within a region, locked sets. -/
namespace MS

abbrev Zs := Int → Prop
inductive Cn (A : Int → Int → Prop) (R : Zs) (a : Int) : Int → Prop
  | refl : R a → Cn A R a a
  | step {b c : Int} : Cn A R a b → A b c → R c → Cn A R a c
def Ind (A : Int → Int → Prop) (I : Zs) : Prop := ∀ x y, I x → I y → ¬ A x y
def mv (I : Zs) (x y : Int) : Zs := fun z => (I z ∧ z ≠ x) ∨ z = y
structure Sld (A : Int → Int → Prop) (R I : Zs) (x y : Int) : Prop where
  ix : I x
  a : A x y
  rx : R x
  ry : R y
  iy : ¬ I y
  ind : Ind A (mv I x y)
inductive Re (A : Int → Int → Prop) (R I : Zs) : Zs → Prop
  | refl : Re A R I I
  | step {J : Zs} {x y : Int} : Re A R I J → Sld A R J x y → Re A R I (mv J x y)
/-- a set of marks that hold one another -/
def Lk (A : Int → Int → Prop) (R I C : Zs) : Prop := (∀ x, C x → I x ∧ R x) ∧ ∀ x v, C x → R v → A x v → ∃ w, C w ∧ w ≠ x ∧ A w v
def Lkd (A : Int → Int → Prop) (R I : Zs) (x : Int) : Prop := ∃ C, Lk A R I C ∧ C x
def Sep (A : Int → Int → Prop) (R I : Zs) : Prop := ∀ x y, R x → ¬ R y → I y → ¬ A x y
def Free (A : Int → Int → Prop) (R I : Zs) : Prop := ∀ x, I x → R x → ¬ Lkd A R I x
def wo (R : Zs) (v : Int) : Zs := fun z => R z ∧ z ≠ v
def Acyc (A : Int → Int → Prop) : Prop := ∀ v a b, A v a → A v b → Cn A (fun z => z ≠ v) a b → a = b
open Classical in
noncomputable def sz (vs : List Int) (R : Zs) : Nat := vs.countP fun z => decide (R z)
structure Gr (A : Int → Int → Prop) (vs : List Int) : Prop where
  sy : ∀ a b, A a b → A b a
  ir : ∀ a, ¬ A a a
  nd : vs.Nodup
  ac : Acyc A
  vx : ∀ a b, A a b → a ∈ vs
  no : (-1 : Int) ∉ vs

/-! ### sizes -/
section
open Classical
variable {vs : List Int} {K R P Q : Zs} {x y v : Int}
theorem sz_congr (h : ∀ z, P z ↔ Q z) : sz vs P = sz vs Q := by
  have : P = Q := funext fun z => propext (h z)
  rw [this]
theorem sz_le (h : ∀ z, K z → R z) : sz vs K ≤ sz vs R := by
  unfold sz
  exact List.countP_mono_left fun z _ q => decide_eq_true (h z (of_decide_eq_true q))
theorem sz_none (h : ∀ z ∈ vs, ¬ P z) : sz vs P = 0 := by
  unfold sz
  exact List.countP_eq_zero.mpr fun z hz q => h z hz (of_decide_eq_true q)
theorem sz_zero (h : sz vs P = 0) {z : Int} (hz : z ∈ vs) : ¬ P z := fun q => by
  unfold sz at h
  exact List.countP_eq_zero.mp h z hz (decide_eq_true q)
theorem sz_congr_on : ∀ {vs : List Int}, (∀ z ∈ vs, P z ↔ Q z) → sz vs P = sz vs Q
  | [], _ => rfl
  | a :: vs, h => by
    unfold sz
    rw [List.countP_cons, List.countP_cons]
    have ih := sz_congr_on (vs := vs) fun z hz => h z (List.mem_cons_of_mem _ hz)
    unfold sz at ih
    rw [ih]
    have := h a List.mem_cons_self
    by_cases q : P a
    · rw [decide_eq_true q, decide_eq_true (this.mp q)]
    · rw [decide_eq_false q, decide_eq_false fun r => q (this.mpr r)]
theorem sz_add : ∀ {vs : List Int}, vs.Nodup → y ∈ vs → ¬ Q y → sz vs (fun z => Q z ∨ z = y) = sz vs Q + 1
  | a :: vs, hn, hy, hq => by
    obtain ⟨h1, h2⟩ := List.nodup_cons.mp hn
    unfold sz
    rw [List.countP_cons, List.countP_cons]
    by_cases e : a = y
    · subst e
      have : sz vs (fun z => Q z ∨ z = a) = sz vs Q := sz_congr_on fun z hz => ⟨fun q => q.resolve_right (by rintro rfl; exact h1 hz), .inl⟩
      unfold sz at this
      rw [this, decide_eq_false hq]
      simp
    · have hy' : y ∈ vs := (List.mem_cons.mp hy).resolve_left (Ne.symm e)
      have ih := sz_add h2 hy' hq
      unfold sz at ih
      rw [ih]
      by_cases q : Q a
      · simp [q]
      · simp [q, e]
theorem sz_lt (hn : vs.Nodup) (h : ∀ z, K z → R z) (hv : v ∈ vs) (hr : R v) (hk : ¬ K v) : sz vs K < sz vs R := by
  have h1 : sz vs R = sz vs (fun z => wo R v z ∨ z = v) := sz_congr fun z => by
    unfold wo
    by_cases q : z = v
    · subst q; simp [hr]
    · simp [q]
  rw [h1, sz_add hn hv (fun q => q.2 rfl)]
  have h2 : sz vs K ≤ sz vs (wo R v) := sz_le fun z q => ⟨h z q, by rintro rfl; exact hk q⟩
  omega
theorem sz_mv (hn : vs.Nodup) (hx : x ∈ vs) (hy : y ∈ vs) (px : P x) (py : ¬ P y) : sz vs (mv P x y) = sz vs P := by
  have h1 : sz vs P = sz vs (fun z => (P z ∧ z ≠ x) ∨ z = x) := sz_congr fun z => by
    by_cases q : z = x
    · subst q; simp [px]
    · simp [q]
  rw [h1, sz_add hn hx (fun q => q.2 rfl)]
  exact sz_add hn hy (fun q => py q.1)
end

/-! ### paths -/
section
variable {A : Int → Int → Prop} {R R' : Zs} {a b c : Int}
theorem Cn.mono (h : ∀ z, R z → R' z) (k : Cn A R a b) : Cn A R' a b := by
  induction k with
  | refl q => exact .refl (h _ q)
  | step _ q r ih => exact .step ih q (h _ r)
theorem Cn.end' (k : Cn A R a b) : R b := by
  cases k with
  | refl q => exact q
  | step _ _ r => exact r
theorem Cn.start (k : Cn A R a b) : R a := by
  induction k with
  | refl q => exact q
  | step _ _ _ ih => exact ih
theorem Cn.trans (h : Cn A R a b) (k : Cn A R b c) : Cn A R a c := by
  induction k with
  | refl _ => exact h
  | step _ q r ih => exact .step ih q r
theorem Cn.symm (hs : ∀ a b, A a b → A b a) (h : Cn A R a b) : Cn A R b a := by
  induction h with
  | refl q => exact .refl q
  | step k q r ih => exact (Cn.step (.refl r) (hs _ _ q) k.end').trans ih
/-- the last time that a path leaves its first spot -/
theorem Cn.leave {u z : Int} (h : Cn A R u z) : z = u ∨ ∃ y, A u y ∧ R y ∧ Cn A (wo R u) y z := by
  induction h with
  | refl _ => exact .inl rfl
  | @step b c k q r ih =>
    by_cases e : c = u
    · exact .inl e
    · rcases ih with rfl | ⟨y, h1, h2, h3⟩
      · exact .inr ⟨c, q, r, .refl ⟨r, e⟩⟩
      · exact .inr ⟨y, h1, h2, .step h3 q ⟨r, e⟩⟩
end

/-! ### slides -/
section
variable {A : Int → Int → Prop} {vs : List Int} {R R' I J C : Zs} {x y : Int}
theorem mv_back (hx : I x) (hy : ¬ I y) : mv (mv I x y) y x = I := by
  funext z
  refine propext ⟨?_, fun h => ?_⟩
  · rintro (⟨⟨h, _⟩ | h, h2⟩ | h)
    · exact h
    · exact absurd h h2
    · subst h; exact hx
  · by_cases q : z = x
    · exact .inr q
    · exact .inl ⟨.inl ⟨h, q⟩, by rintro rfl; exact hy h⟩
theorem Sld.symm (G : Gr A vs) (hI : Ind A I) (h : Sld A R I x y) : Sld A R (mv I x y) y x := by
  refine ⟨.inr rfl, G.sy _ _ h.a, h.ry, h.rx, ?_, ?_⟩
  · rintro (q | q)
    · exact q.2 rfl
    · subst q
      exact G.ir _ h.a
  · rw [mv_back h.ix h.iy]
    exact hI
theorem Re.ind (hI : Ind A I) (h : Re A R I J) : Ind A J := by
  cases h with
  | refl => exact hI
  | step _ s => exact s.ind
theorem Re.trans {L : Zs} (h : Re A R I J) (k : Re A R J L) : Re A R I L := by
  induction k with
  | refl => exact h
  | step _ s ih => exact .step ih s
theorem Sld.mono (m : ∀ z, R z → R' z) (s : Sld A R I x y) : Sld A R' I x y := ⟨s.ix, s.a, m _ s.rx, m _ s.ry, s.iy, s.ind⟩
theorem Re.mono (m : ∀ z, R z → R' z) (h : Re A R I J) : Re A R' I J := by
  induction h with
  | refl => exact .refl
  | step _ s ih => exact .step ih (s.mono m)
theorem Re.out (h : Re A R I J) {z : Int} (hz : ¬ R z) : J z ↔ I z := by
  induction h with
  | refl => exact Iff.rfl
  | @step J x y _ s ih =>
    rw [← ih]
    constructor
    · rintro (q | q)
      · exact q.1
      · subst q; exact absurd s.ry hz
    · intro q
      exact .inl ⟨q, by rintro rfl; exact hz s.rx⟩
theorem Re.symm (G : Gr A vs) (hI : Ind A I) (h : Re A R I J) : Re A R J I := by
  induction h with
  | refl => exact .refl
  | @step J x y k s ih =>
    have := s.symm G (k.ind hI)
    have st : Re A R (mv J x y) (mv (mv J x y) y x) := .step .refl this
    rw [mv_back s.ix s.iy] at st
    exact st.trans ih
theorem Re.count (G : Gr A vs) (h : Re A R I J) (hR : ∀ z, R z → z ∈ vs) : sz vs (fun z => J z ∧ R z) = sz vs (fun z => I z ∧ R z) := by
  induction h with
  | refl => rfl
  | @step J x y _ s ih =>
    rw [← ih, ← sz_mv (P := fun z => J z ∧ R z) G.nd (hR _ s.rx) (hR _ s.ry) ⟨s.ix, s.rx⟩ (fun q => s.iy q.1)]
    refine sz_congr fun z => ?_
    constructor
    · rintro ⟨q | q, r⟩
      · exact .inl ⟨⟨q.1, r⟩, q.2⟩
      · exact .inr q
    · rintro (⟨⟨q, r⟩, t⟩ | q)
      · exact ⟨.inl ⟨q, t⟩, r⟩
      · subst q; exact ⟨.inr rfl, s.ry⟩
theorem lk_step (s : Sld A R I x y) (h : Lk A R I C) : ¬ C x ∧ Lk A R (mv I x y) C := by
  have hx : ¬ C x := fun q => by
    obtain ⟨w, h1, h2, h3⟩ := h.2 x y q s.ry s.a
    exact s.ind w y (.inl ⟨(h.1 w h1).1, h2⟩) (.inr rfl) h3
  refine ⟨hx, fun z q => ⟨.inl ⟨(h.1 z q).1, by rintro rfl; exact hx q⟩, (h.1 z q).2⟩, h.2⟩
theorem lk_re (G : Gr A vs) (hI : Ind A I) (h : Re A R I J) : Lk A R I C ↔ Lk A R J C := by
  induction h with
  | refl => exact Iff.rfl
  | @step J x y k s ih =>
    rw [ih]
    refine ⟨fun q => (lk_step s q).2, fun q => ?_⟩
    have := (lk_step (s.symm G (k.ind hI)) q).2
    rwa [mv_back s.ix s.iy] at this
theorem lkd_re (G : Gr A vs) (hI : Ind A I) (h : Re A R I J) : Lkd A R I x ↔ Lkd A R J x := by
  unfold Lkd
  exact ⟨fun ⟨C, q, r⟩ => ⟨C, (lk_re G hI h).mp q, r⟩, fun ⟨C, q, r⟩ => ⟨C, (lk_re G hI h).mpr q, r⟩⟩
theorem lkd_in (h : Lkd A R I x) : I x ∧ R x := let ⟨_, q, r⟩ := h; q.1 x r
theorem sep_re (h : Sep A R I) (k : Re A R I J) : Sep A R J := fun x y hx hy hj => h x y hx hy ((k.out hy).mp hj)
theorem free_re (G : Gr A vs) (hI : Ind A I) (h : Free A R I) (k : Re A R I J) : Free A R J := fun x _ hr q => by
  have := (lkd_re G hI k).mpr q
  exact h x (lkd_in this).1 hr this
/-- what is locked beyond each neighbour, and the one in the midst, are locked -/
theorem lk_union {w : Int} (hw : I w) (rw' : R w) (h : ∀ v, R v → A w v → ∃ w', A w' v ∧ w' ≠ w ∧ Lkd A (wo R v) I w') : Lkd A R I w := by
  refine ⟨fun z => z = w ∨ ∃ v w' D, R v ∧ A w v ∧ A w' v ∧ w' ≠ w ∧ Lk A (wo R v) I D ∧ D w' ∧ D z, ⟨fun z hz => ?_, fun x u hx hu ha => ?_⟩, .inl rfl⟩
  · rcases hz with rfl | ⟨v, w', D, _, _, _, _, h5, _, h7⟩
    · exact ⟨hw, rw'⟩
    · have := h5.1 z h7
      exact ⟨this.1, this.2.1⟩
  · have from' : ∀ u, R u → A w u → ∃ w', (w' = w ∨ ∃ v w'' D, R v ∧ A w v ∧ A w'' v ∧ w'' ≠ w ∧ Lk A (wo R v) I D ∧ D w'' ∧ D w') ∧ w' ≠ w ∧ A w' u := fun u hu ha => by
      obtain ⟨w', q1, q2, D, q3, q4⟩ := h u hu ha
      exact ⟨w', .inr ⟨u, w', D, hu, ha, q1, q2, q3, q4, q4⟩, q2, q1⟩
    rcases hx with rfl | ⟨v, w', D, h1, h2, h3, h4, h5, h6, h7⟩
    · exact from' u hu ha
    · by_cases e : u = v
      · subst e
        by_cases e2 : x = w
        · subst e2
          exact from' u hu ha
        · exact ⟨w, .inl rfl, Ne.symm e2, h2⟩
      · obtain ⟨y, y1, y2, y3⟩ := h5.2 x u h7 ⟨hu, e⟩ ha
        exact ⟨y, .inr ⟨v, w', D, h1, h2, h3, h4, h5, h6, y1⟩, y2, y3⟩
/-- two that are locked beyond a spot hold one another -/
theorem lk_two {a b p : Int} (ha : Lkd A (wo R p) I a) (hb : Lkd A (wo R p) I b) (ap : A a p) (bp : A b p) (ne : a ≠ b) : Lkd A R I a := by
  obtain ⟨D, d1, d2⟩ := ha
  obtain ⟨E, e1, e2⟩ := hb
  refine ⟨fun z => D z ∨ E z, ⟨fun z hz => ?_, fun x u hx hu hA => ?_⟩, .inl d2⟩
  · rcases hz with q | q
    · exact ⟨(d1.1 z q).1, (d1.1 z q).2.1⟩
    · exact ⟨(e1.1 z q).1, (e1.1 z q).2.1⟩
  · by_cases e : u = p
    · subst e
      by_cases q : x = a
      · subst q
        exact ⟨b, .inr e2, Ne.symm ne, bp⟩
      · exact ⟨a, .inl d2, Ne.symm q, ap⟩
    · rcases hx with q | q
      · obtain ⟨y, y1, y2, y3⟩ := d1.2 x u q ⟨hu, e⟩ hA
        exact ⟨y, .inl y1, y2, y3⟩
      · obtain ⟨y, y1, y2, y3⟩ := e1.2 x u q ⟨hu, e⟩ hA
        exact ⟨y, .inr y1, y2, y3⟩
end

/-! ### a mark that is not locked can go -/
section
variable {A : Int → Int → Prop} {vs : List Int}
def Goes (A : Int → Int → Prop) (K : Zs) : Prop := ∀ I, Ind A I → Sep A K I → ∀ w, I w → K w → ¬ Lkd A K I w → ∃ J, Re A K I J ∧ ¬ J w
/-- all others that touch a spot go away -/
theorem clear (G : Gr A vs) {R : Zs} (hg : ∀ K : Zs, sz vs K < sz vs R → Goes A K) {v w : Int} (hv : R v) : ∀ (c : Nat) (I : Zs), Ind A I → Sep A R I → I w → A w v → (∀ w', I w' → A w' v → w' ≠ w → ¬ Lkd A (wo R v) I w') → sz vs (fun z => I z ∧ A z v ∧ z ≠ w) ≤ c → ∃ J, Re A R I J ∧ J w ∧ ∀ w', J w' → A w' v → w' = w := by
  intro c
  induction c with
  | zero =>
    intro I hI hS hw ha hu hc
    refine ⟨I, .refl, hw, fun w' h1 h2 => Classical.byContradiction fun h3 => ?_⟩
    exact sz_zero (Nat.le_zero.mp hc) (G.vx _ _ h2) ⟨h1, h2, h3⟩
  | succ c ih =>
    intro I hI hS hw ha hu hc
    by_cases hex : ∃ w', I w' ∧ A w' v ∧ w' ≠ w
    · obtain ⟨w', h1, h2, h3⟩ := hex
      have hin : ∀ z, I z → A z v → R z := fun z q r => Classical.byContradiction fun t => hS v z hv t q (G.sy _ _ r)
      have hRw' : wo R v w' := ⟨hin w' h1 h2, by rintro rfl; exact G.ir _ h2⟩
      have hnv : ¬ I v := fun q => hI w v hw q ha
      -- the part beyond v
      have hKR : ∀ z, Cn A (wo R v) w' z → R z := fun z q => q.end'.1
      have hlt : sz vs (fun z => Cn A (wo R v) w' z) < sz vs R := sz_lt G.nd hKR (G.vx _ _ (G.sy _ _ h2)) hv fun q => q.end'.2 rfl
      have hSK : Sep A (fun z => Cn A (wo R v) w' z) I := fun x y hx hy hi hA => by
        by_cases q : R y
        · exact hy (.step hx hA ⟨q, by rintro rfl; exact hnv hi⟩)
        · exact hS x y (hKR x hx) q hi hA
      have hul : ¬ Lkd A (fun z => Cn A (wo R v) w' z) I w' := fun ⟨C, q1, q2⟩ => hu w' h1 h2 h3 ⟨C, ⟨fun x hx => ⟨(q1.1 x hx).1, (q1.1 x hx).2.end'⟩, fun x u hx hR hA => q1.2 x u hx (.step (q1.1 x hx).2 hA hR) hA⟩, q2⟩
      obtain ⟨J, j1, j2⟩ := hg _ hlt I hI hSK w' h1 (.refl hRw') hul
      have only : ∀ z, Cn A (wo R v) w' z → A z v → z = w' := fun z q r => (G.ac v w' z (G.sy _ _ h2) (G.sy _ _ r) (q.mono fun _ t => t.2)).symm
      have hwK : ¬ Cn A (wo R v) w' w := fun q => h3 (only w q ha).symm
      have jR : Re A R I J := j1.mono hKR
      have jv : Re A (wo R v) I J := j1.mono fun z q => q.end'
      have jz : ∀ z, J z → A z v → I z ∧ z ≠ w' := fun z q r => by
        have : ¬ Cn A (wo R v) w' z := fun t => by
          have := only z t r
          subst this
          exact j2 q
        refine ⟨(j1.out this).mp q, ?_⟩
        rintro rfl
        exact this (.refl hRw')
      obtain ⟨L, l1, l2, l3⟩ := ih J (j1.ind hI) (sep_re hS jR) ((j1.out hwK).mpr hw) ha (fun z q r t u => hu z (jz z q r).1 r t ((lkd_re G hI jv).mpr u)) (by
        have : sz vs (fun z => J z ∧ A z v ∧ z ≠ w) < sz vs (fun z => I z ∧ A z v ∧ z ≠ w) := sz_lt (v := w') G.nd (fun z ⟨q, r, t⟩ => ⟨(jz z q r).1, r, t⟩) (G.vx _ _ h2) ⟨h1, h2, h3⟩ fun q => j2 q.1
        omega)
      exact ⟨L, jR.trans l1, l2, l3⟩
    · exact ⟨I, .refl, hw, fun w' q r => Classical.byContradiction fun t => hex ⟨w', q, r, t⟩⟩
theorem slide_to (G : Gr A vs) {R J : Zs} {v w : Int} (hJ : Ind A J) (hv : R v) (hRw : R w) (hw : J w) (ha : A w v) (h : ∀ w', J w' → A w' v → w' = w) : Sld A R J w v := by
  refine ⟨hw, ha, hRw, hv, fun q => hJ w v hw q ha, ?_⟩
  rintro x y (⟨q1, q2⟩ | rfl) (⟨r1, r2⟩ | rfl) hA
  · exact hJ x y q1 r1 hA
  · exact q2 (h x q1 hA)
  · exact r2 (h y r1 (G.sy _ _ hA))
  · exact G.ir _ hA
theorem goes_all (G : Gr A vs) : ∀ (c : Nat) (R : Zs), sz vs R < c → Goes A R := by
  intro c
  induction c with
  | zero => intro R h; exact absurd h (Nat.not_lt_zero _)
  | succ c ih =>
    intro R hR I hI hS w hw hRw hul
    have hex : ∃ v, R v ∧ A w v ∧ ∀ w', A w' v → w' ≠ w → ¬ Lkd A (wo R v) I w' := Classical.byContradiction fun q => hul (lk_union hw hRw fun v hv ha => Classical.byContradiction fun r => q ⟨v, hv, ha, fun w' h1 h2 h3 => r ⟨w', h1, h2, h3⟩⟩)
    obtain ⟨v, hv, ha, hn⟩ := hex
    obtain ⟨J, j1, j2, j3⟩ := clear G (fun K hK => ih K (by omega)) hv _ I hI hS hw ha (fun w' _ h2 h3 => hn w' h2 h3) (Nat.le_refl _)
    refine ⟨_, .step j1 (slide_to G (j1.ind hI) hv hRw j2 ha j3), ?_⟩
    rintro (q | q)
    · exact q.2 rfl
    · subst q; exact G.ir _ ha
theorem goes (G : Gr A vs) (R : Zs) : Goes A R := goes_all G _ R (Nat.lt_succ_self _)
/-- where none is locked, a mark comes to any spot beside it -/
theorem bring (G : Gr A vs) {R I : Zs} (hI : Ind A I) (hS : Sep A R I) (hF : Free A R I) {w p : Int} (hw : I w) (hp : R p) (ha : A w p) : ∃ J, Re A R I J ∧ J p := by
  have hin : ∀ z, I z → A z p → R z := fun z q r => Classical.byContradiction fun t => hS p z hp t q (G.sy _ _ r)
  have hex : ∃ w0, I w0 ∧ A w0 p ∧ ∀ w', A w' p → w' ≠ w0 → ¬ Lkd A (wo R p) I w' := by
    by_cases q : ∃ a, A a p ∧ Lkd A (wo R p) I a
    · obtain ⟨a, q1, q2⟩ := q
      have hia := (lkd_in q2).1
      exact ⟨a, hia, q1, fun w' h1 h2 h3 => hF a hia (lkd_in q2).2.1 (lk_two q2 h3 q1 h1 (Ne.symm h2))⟩
    · exact ⟨w, hw, ha, fun w' h1 _ h3 => q ⟨w', h1, h3⟩⟩
  obtain ⟨w0, h1, h2, h3⟩ := hex
  obtain ⟨J, j1, j2, j3⟩ := clear G (fun K _ => goes G K) hp _ I hI hS h1 h2 (fun w' _ q r => h3 w' q r) (Nat.le_refl _)
  exact ⟨_, .step j1 (slide_to G (j1.ind hI) hp (hin w0 h1 h2) j2 h2 j3), .inr rfl⟩
theorem bring_far (G : Gr A vs) {R : Zs} {w x : Int} (h : Cn A R w x) : ∀ I, Ind A I → Sep A R I → Free A R I → I w → ∃ J, Re A R I J ∧ J x := by
  induction h with
  | refl _ => exact fun I _ _ _ hw => ⟨I, .refl, hw⟩
  | @step b c k q r ih =>
    intro I hI hS hF hw
    obtain ⟨J, j1, j2⟩ := ih I hI hS hF hw
    obtain ⟨L, l1, l2⟩ := bring G (j1.ind hI) (sep_re hS j1) (free_re G hI hF j1) j2 r q
    exact ⟨L, j1.trans l1, l2⟩
end
end MS

/-! MsF2: on a tree where none is locked, all sets of as many marks are of one room. -/
namespace MS

theorem least' {P : Nat → Prop} : ∀ {t : Nat}, P t → ∃ T, P T ∧ ∀ u, u < T → ¬ P u := by
  intro t
  induction t using Nat.strongRecOn with
  | ind t ih =>
    intro h
    by_cases q : ∃ u, u < t ∧ P u
    · obtain ⟨u, hu, hp⟩ := q
      exact ih u hu hp
    · exact ⟨t, h, fun u hu hp => q ⟨u, hu, hp⟩⟩
section
variable {vs : List Int} {P : Zs} {x y : Int}
theorem sz_two (hn : vs.Nodup) (hx : x ∈ vs) (hy : y ∈ vs) (ne : x ≠ y) (px : P x) (py : P y) : 2 ≤ sz vs P := by
  have h1 : sz vs (fun _ => False) < sz vs (fun z => z = x) := sz_lt (v := x) hn (fun _ q => q.elim) hx rfl id
  have h2 : sz vs (fun z => z = x) < sz vs P := sz_lt (v := y) hn (fun z q => by subst q; exact px) hy py (Ne.symm ne)
  omega
theorem sz_one (hn : vs.Nodup) (h : ∀ z, P z → z = x) : sz vs P ≤ 1 := by
  have h1 : sz vs P ≤ sz vs (fun z => z = x) := sz_le h
  by_cases hx : x ∈ vs
  · have h2 : sz vs (fun z => z = x) = sz vs (fun z => (fun _ => False) z ∨ z = x) := sz_congr fun z => ⟨.inr, fun q => q.resolve_left id⟩
    have h3 : sz vs (fun z => (fun _ => False) z ∨ z = x) = sz vs (fun _ => False) + 1 := sz_add (Q := fun _ => False) hn hx id
    have h4 : sz vs (fun _ : Int => False) = 0 := sz_none fun _ _ q => q
    omega
  · have : sz vs (fun z => z = x) = 0 := sz_none fun z hz q => hx (q ▸ hz)
    omega
end
section
variable {A : Int → Int → Prop} {vs : List Int}
theorem Cn.keep {R S : Zs} {a b : Int} (h : Cn A R a b) (k : ∀ z, Cn A R a z → S z) : Cn A S a b := by
  induction h with
  | refl q => exact .refl (k _ (.refl q))
  | step c q r ih => exact .step ih q (k _ (.step c q r))
theorem lkd_on {K I J : Zs} {x : Int} (h : ∀ z, K z → I z → J z) (q : Lkd A K I x) : Lkd A K J x := by
  obtain ⟨C, q1, q2⟩ := q
  exact ⟨C, ⟨fun z hz => ⟨h z (q1.1 z hz).2 (q1.1 z hz).1, (q1.1 z hz).2⟩, q1.2⟩, q2⟩
/-- a spot all whose neighbours but one are ends -/
theorem safe (G : Gr A vs) {R : Zs} (hR : ∀ z, R z → z ∈ vs) {x y0 : Int} (hx : R x) (hy0 : R y0) (ha0 : A x y0) : ∃ p u v, R u ∧ (R p → A u p) ∧ R v ∧ A u v ∧ v ≠ p ∧ ∀ y, R y → A u y → y ≠ p → ∀ z, R z → A y z → z = u := by
  have hm1 : ¬ R (-1) := fun q => G.no (hR _ q)
  have hxy : x ≠ y0 := by rintro rfl; exact G.ir _ ha0
  have ex0 : ∃ p u, R u ∧ (R p → A u p) ∧ 2 ≤ sz vs (fun z => Cn A (wo R p) u z) ∧ sz vs (fun z => Cn A (wo R p) u z) = sz vs (fun z => Cn A (wo R (-1)) x z) := by
    refine ⟨-1, x, hx, fun q => absurd q hm1, ?_, rfl⟩
    have w : ∀ z, R z → wo R (-1) z := fun z q => ⟨q, by rintro rfl; exact hm1 q⟩
    exact sz_two G.nd (hR _ hx) (hR _ hy0) hxy (.refl (w x hx)) (.step (.refl (w x hx)) ha0 (w y0 hy0))
  obtain ⟨T, ⟨p, u, hu, hp, h2, hT⟩, hmin⟩ := least' (P := fun t => ∃ p u, R u ∧ (R p → A u p) ∧ 2 ≤ sz vs (fun z => Cn A (wo R p) u z) ∧ sz vs (fun z => Cn A (wo R p) u z) = t) ex0
  have hup : u ≠ p := by
    rintro rfl
    exact G.ir _ (hp hu)
  have huw : wo R p u := ⟨hu, hup⟩
  have hleaf : ∀ y, R y → A u y → y ≠ p → ∀ z, R z → A y z → z = u := fun y hy hA hyp z hz hA2 => Classical.byContradiction fun hzu => by
    have hyu : y ≠ u := by rintro rfl; exact G.ir _ hA
    have hyz : y ≠ z := by rintro rfl; exact G.ir _ hA2
    have s2 : 2 ≤ sz vs (fun t => Cn A (wo R u) y t) := sz_two G.nd (hR _ hy) (hR _ hz) hyz (.refl ⟨hy, hyu⟩) (.step (.refl ⟨hy, hyu⟩) hA2 ⟨hz, hzu⟩)
    have sub : ∀ t, Cn A (wo R u) y t → Cn A (wo R p) u t := fun t ht => by
      have nop : ∀ t, Cn A (wo R u) y t → wo R p t := fun t ht => ⟨ht.end'.1, by
        rintro rfl
        exact hyp (G.ac u y _ hA (hp ht.end'.1) (ht.mono fun _ q => q.2))⟩
      exact (Cn.step (.refl huw) hA ⟨hy, hyp⟩).trans (ht.keep nop)
    have lt : sz vs (fun t => Cn A (wo R u) y t) < sz vs (fun z => Cn A (wo R p) u z) := sz_lt (v := u) G.nd sub (hR _ hu) (.refl huw) fun q => q.end'.2 rfl
    rw [hT] at lt
    exact hmin _ lt ⟨u, y, hy, fun _ => G.sy _ _ hA, s2, rfl⟩
  have exv : ∃ z, Cn A (wo R p) u z ∧ z ≠ u := Classical.byContradiction fun q => by
    have := sz_one (P := fun z => Cn A (wo R p) u z) (x := u) G.nd fun z hz => Classical.byContradiction fun r => q ⟨z, hz, r⟩
    omega
  obtain ⟨z, hz, hzu⟩ := exv
  rcases hz.leave with rfl | ⟨v, v1, v2, _⟩
  · exact absurd rfl hzu
  · exact ⟨p, u, v, hu, hp, v2.1, v1, v2.2, hleaf⟩
theorem main_all (G : Gr A vs) : ∀ (c : Nat) (R I J : Zs), sz vs R < c → (∀ z, R z → z ∈ vs) → (∀ x y, R x → R y → Cn A R x y) → Ind A I → Ind A J → Sep A R I → Sep A R J → Free A R I → Free A R J → (∀ z, ¬ R z → (I z ↔ J z)) → sz vs (fun z => I z ∧ R z) = sz vs (fun z => J z ∧ R z) → Re A R I J := by
  intro c
  induction c with
  | zero => intro R I J h; exact absurd h (Nat.not_lt_zero _)
  | succ c ih =>
    intro R I J hsz hR hcn hI hJ hSI hSJ hFI hFJ hout hcnt
    by_cases hex : ∃ x, I x ∧ R x
    rotate_left
    · have e0 : sz vs (fun z => I z ∧ R z) = 0 := sz_none fun z _ q => hex ⟨z, q⟩
      have eJ : ∀ z, R z → ¬ J z := fun z hz q => sz_zero (hcnt ▸ e0) (hR z hz) ⟨q, hz⟩
      have : I = J := funext fun z => propext (by
        by_cases q : R z
        · exact ⟨fun r => absurd ⟨z, r, q⟩ hex, fun r => absurd r (eJ z q)⟩
        · exact hout z q)
      subst this
      exact .refl
    obtain ⟨x, hx, hxR⟩ := hex
    have hexJ : ∃ x', J x' ∧ R x' := Classical.byContradiction fun q => by
      have e0 : sz vs (fun z => J z ∧ R z) = 0 := sz_none fun z _ r => q ⟨z, r⟩
      exact sz_zero (hcnt.trans e0) (hR x hxR) ⟨hx, hxR⟩
    obtain ⟨x', hx', hxR'⟩ := hexJ
    have hnb : ∃ y0, R y0 ∧ A x y0 := Classical.byContradiction fun q => hFI x hx hxR ⟨fun z => z = x, ⟨fun z hz => by subst hz; exact ⟨hx, hxR⟩, fun z v hz hv hA => by subst hz; exact absurd ⟨v, hv, hA⟩ q⟩, rfl⟩
    obtain ⟨y0, hy0, ha0⟩ := hnb
    obtain ⟨p, u, v, hu, hp, hv, huv, hvp, hleaf⟩ := safe G hR hxR hy0 ha0
    have hvu : v ≠ u := by rintro rfl; exact G.ir _ huv
    obtain ⟨I', i1, i2⟩ := bring_far G (hcn x v hxR hv) I hI hSI hFI hx
    obtain ⟨J', j1, j2⟩ := bring_far G (hcn x' v hxR' hv) J hJ hSJ hFJ hx'
    -- what is left without the spot and its ends
    have hcov : ∀ z, R z → z = u ∨ (A u z ∧ z ≠ p) ∨ (R p ∧ Cn A (wo R u) p z) := fun z hz => by
      rcases (hcn u z hu hz).leave with q | ⟨y, y1, y2, y3⟩
      · exact .inl q
      · by_cases e : y = p
        · subst e; exact .inr (.inr ⟨y2, y3⟩)
        · refine .inr (.inl ?_)
          rcases y3.leave with q | ⟨t, t1, t2, _⟩
          · subst q; exact ⟨y1, e⟩
          · exact absurd (hleaf y y2 y1 e t t2.1 t1) t2.2
    have hnb' : ∀ z, A u z → (R p ∧ Cn A (wo R u) p z) → z = p := fun z hz q => (G.ac u p z (hp q.1) hz (q.2.mono fun _ t => t.2)).symm
    have hnu : ¬ (R p ∧ Cn A (wo R u) p u) := fun q => q.2.end'.2 rfl
    have hvn : ¬ (R p ∧ Cn A (wo R u) p v) := fun q => hvp (hnb' v huv q)
    have hsub : ∀ z, (R p ∧ Cn A (wo R u) p z) → R z := fun z q => q.2.end'.1
    have hlt : sz vs (fun z => R p ∧ Cn A (wo R u) p z) < sz vs R := sz_lt (v := u) G.nd hsub (hR _ hu) hu hnu
    have hcn' : ∀ a b, (R p ∧ Cn A (wo R u) p a) → (R p ∧ Cn A (wo R u) p b) → Cn A (fun z => R p ∧ Cn A (wo R u) p z) a b := fun a b ha hb => ((ha.2.symm G.sy).trans hb.2).keep fun z q => ⟨ha.1, ha.2.trans q⟩
    have key : ∀ L, Ind A L → Sep A R L → Free A R L → L v → Sep A (fun z => R p ∧ Cn A (wo R u) p z) L ∧ Free A (fun z => R p ∧ Cn A (wo R u) p z) L ∧ sz vs (fun z => L z ∧ R z) = sz vs (fun z => L z ∧ (R p ∧ Cn A (wo R u) p z)) + 1 ∧ ∀ z, R z → ¬ (R p ∧ Cn A (wo R u) p z) → (L z ↔ z = v) := fun L hL hSL hFL hLv => by
      have hLu : ¬ L u := fun q => hL u v q hLv huv
      have hLl : ∀ l, R l → A u l → l ≠ p → L l → l = v := fun l l1 l2 l3 l4 => Classical.byContradiction fun l5 => hFL l l4 l1 ⟨fun z => z = l ∨ z = v, ⟨fun z hz => by
          rcases hz with rfl | rfl
          · exact ⟨l4, l1⟩
          · exact ⟨hLv, hv⟩, fun z t hz ht hA => by
          rcases hz with rfl | rfl
          · have := hleaf z l1 l2 l3 t ht hA
            subst this
            exact ⟨v, .inr rfl, Ne.symm l5, G.sy _ _ huv⟩
          · have := hleaf z hv huv hvp t ht hA
            subst this
            exact ⟨l, .inl rfl, l5, G.sy _ _ l2⟩⟩, .inl rfl⟩
      have hlast : ∀ z, R z → ¬ (R p ∧ Cn A (wo R u) p z) → (L z ↔ z = v) := fun z hz hn => by
        refine ⟨fun q => ?_, fun q => by subst q; exact hLv⟩
        rcases hcov z hz with r | r | r
        · subst r; exact absurd q hLu
        · exact hLl z hz r.1 r.2 q
        · exact absurd r hn
      refine ⟨fun a b ha hb hLb hA => ?_, fun a ha haR hk => ?_, ?_, hlast⟩
      · by_cases q : R b
        · have hbu : b = u := by
            rcases hcov b q with r | r | r
            · exact r
            · have := hleaf b q r.1 r.2 a (hsub a ha) (G.sy _ _ hA)
              subst this
              exact absurd ha hnu
            · exact absurd r hb
          subst hbu
          exact hLu hLb
        · exact hSL a b (hsub a ha) q hLb hA
      · obtain ⟨C, c1, c2⟩ := hk
        -- locked in the whole
        have hCL : ∀ z, C z → L z ∧ R z := fun z hz => ⟨(c1.1 z hz).1, hsub z (c1.1 z hz).2⟩
        have step : ∀ z t, C z → R t → A z t → (∃ w, C w ∧ w ≠ z ∧ A w t) ∨ (t = u ∧ z = p) := fun z t hz ht hA => by
          by_cases q : R p ∧ Cn A (wo R u) p t
          · exact .inl (c1.2 z t hz q hA)
          · rcases hcov t ht with r | r | r
            · subst r
              exact .inr ⟨rfl, hnb' z (G.sy _ _ hA) (c1.1 z hz).2⟩
            · have := hleaf t ht r.1 r.2 z (hCL z hz).2 (G.sy _ _ hA)
              subst this
              exact absurd (c1.1 _ hz).2 hnu
            · exact absurd r q
        by_cases hCp : C p
        · have hRp := (hCL p hCp).2
          refine hFL a ha (hsub a haR) ⟨fun z => C z ∨ z = v, ⟨fun z hz => ?_, fun z t hz ht hA => ?_⟩, .inl c2⟩
          · rcases hz with q | rfl
            · exact hCL z q
            · exact ⟨hLv, hv⟩
          · rcases hz with q | rfl
            · rcases step z t q ht hA with ⟨w, w1, w2, w3⟩ | ⟨rfl, rfl⟩
              · exact ⟨w, .inl w1, w2, w3⟩
              · exact ⟨v, .inr rfl, hvp, G.sy _ _ huv⟩
            · have := hleaf z hv huv hvp t ht hA
              subst this
              exact ⟨p, .inl hCp, Ne.symm hvp, G.sy _ _ (hp hRp)⟩
        · refine hFL a ha (hsub a haR) ⟨C, ⟨hCL, fun z t hz ht hA => ?_⟩, c2⟩
          rcases step z t hz ht hA with q | ⟨rfl, rfl⟩
          · exact q
          · exact absurd hz hCp
      · rw [← sz_add (Q := fun z => L z ∧ (R p ∧ Cn A (wo R u) p z)) G.nd (hR v hv) fun q => hvn q.2]
        refine sz_congr fun z => ⟨fun q => ?_, fun q => ?_⟩
        · by_cases r : R p ∧ Cn A (wo R u) p z
          · exact .inl ⟨q.1, r⟩
          · exact .inr ((hlast z q.2 r).mp q.1)
        · rcases q with q | rfl
          · exact ⟨q.1, hsub z q.2⟩
          · exact ⟨hLv, hv⟩
    obtain ⟨a1, a2, a3, a4⟩ := key I' (i1.ind hI) (sep_re hSI i1) (free_re G hI hFI i1) i2
    obtain ⟨b1, b2, b3, b4⟩ := key J' (j1.ind hJ) (sep_re hSJ j1) (free_re G hJ hFJ j1) j2
    have hcI := i1.count G hR
    have hcJ := j1.count G hR
    have mid := ih (fun z => R p ∧ Cn A (wo R u) p z) I' J' (by omega) (fun z q => hR z (hsub z q)) hcn' (i1.ind hI) (j1.ind hJ) a1 b1 a2 b2 (fun z hz => by
      by_cases q : R z
      · exact (a4 z q hz).trans (b4 z q hz).symm
      · exact (i1.out q).trans ((hout z q).trans (j1.out q).symm)) (by omega)
    exact i1.trans ((mid.mono hsub).trans (j1.symm G hJ))
/-! ### the whole tree -/
/-- what is neither locked nor touches what is -/
def freeF (A : Int → Int → Prop) (V I : Zs) : Zs := fun z => V z ∧ ¬ Lkd A V I z ∧ ∀ s, A z s → ¬ Lkd A V I s
section
variable {V I J : Zs}
theorem tok (hI : Ind A I) (hV : ∀ z, I z → V z) {z : Int} (hz : I z) : Lkd A V I z ∨ freeF A V I z := by
  by_cases q : Lkd A V I z
  · exact .inl q
  · exact .inr ⟨hV z hz, q, fun s hA hs => hI z s hz (lkd_in hs).1 hA⟩
theorem sep_comp (hI : Ind A I) (hV : ∀ z, I z → V z) (r : Int) : Sep A (fun z => Cn A (freeF A V I) r z) I := fun x y hx hy hi hA => by
  rcases tok hI hV hi with q | q
  · exact hx.end'.2.2 y hA q
  · exact hy (.step hx hA q)
theorem free_comp (G : Gr A vs) (hI : Ind A I) (hV : ∀ z, I z → V z) (hc : ∀ a b, A a b → V b) (r : Int) : Free A (fun z => Cn A (freeF A V I) r z) I := fun x hx hr hk => by
  obtain ⟨C, c1, c2⟩ := hk
  refine hr.end'.2.1 ⟨fun z => C z ∨ Lkd A V I z, ⟨fun z hz => ?_, fun z t hz ht hA => ?_⟩, .inl c2⟩
  · rcases hz with q | q
    · exact ⟨(c1.1 z q).1, hV z (c1.1 z q).1⟩
    · exact lkd_in q
  · rcases hz with q | q
    · have hzK := (c1.1 z q).2
      by_cases f : freeF A V I t
      · obtain ⟨w, w1, w2, w3⟩ := c1.2 z t q (.step hzK hA f) hA
        exact ⟨w, .inl w1, w2, w3⟩
      · by_cases f1 : Lkd A V I t
        · exact absurd f1 (hzK.end'.2.2 t hA)
        · have : ∃ s, A t s ∧ Lkd A V I s := Classical.byContradiction fun g => f ⟨ht, f1, fun s hs hl => g ⟨s, hs, hl⟩⟩
          obtain ⟨s, s1, s2⟩ := this
          exact ⟨s, .inr s2, by rintro rfl; exact hzK.end'.2.1 s2, G.sy _ _ s1⟩
    · obtain ⟨D, d1, d2⟩ := q
      obtain ⟨w, w1, w2, w3⟩ := d1.2 z t d2 ht hA
      exact ⟨w, .inr ⟨D, d1, w1⟩, w2, w3⟩
theorem parts_go (G : Gr A vs) (hVv : ∀ z, V z → z ∈ vs) {F : Zs} (hF : ∀ z, F z → V z) (S : Zs) (hSF : ∀ z, S z → ¬ F z) (hJ : Ind A J) (hJt : ∀ z, J z → S z ∨ F z) (hJs : ∀ r, F r → Sep A (fun z => Cn A F r z) J) (hJf : ∀ r, F r → Free A (fun z => Cn A F r z) J) : ∀ (rs : List Int) (I : Zs), Ind A I → (∀ z, I z → S z ∨ F z) → (∀ z, S z → I z) → (∀ r, F r → Sep A (fun z => Cn A F r z) I) → (∀ r, F r → Free A (fun z => Cn A F r z) I) → (∀ r, F r → sz vs (fun z => I z ∧ Cn A F r z) = sz vs (fun z => J z ∧ Cn A F r z)) → (∀ z, (∀ r ∈ rs, F r → ¬ Cn A F r z) → (I z ↔ J z)) → Re A V I J := by
  intro rs
  induction rs with
  | nil =>
    intro I _ _ _ _ _ _ h
    have : I = J := funext fun z => propext (h z fun r hr => by cases hr)
    subst this
    exact .refl
  | cons r rs ih =>
    intro I hI hIt hIS hIs hIf hcnt hag
    by_cases hr : F r
    rotate_left
    · exact ih I hI hIt hIS hIs hIf hcnt fun z hz => hag z fun r' h' f' => by
        rcases List.mem_cons.mp h' with rfl | h'
        · exact absurd f' hr
        · exact hz r' h' f'
    have onK : ∀ z, Cn A F r z → (((Cn A F r z ∧ J z) ∨ (¬ Cn A F r z ∧ I z)) ↔ J z) := fun z q => ⟨fun h => h.elim (·.2) fun h => absurd q h.1, fun h => .inl ⟨q, h⟩⟩
    have offK : ∀ z, ¬ Cn A F r z → (((Cn A F r z ∧ J z) ∨ (¬ Cn A F r z ∧ I z)) ↔ I z) := fun z q => ⟨fun h => h.elim (fun h => absurd h.1 q) (·.2), fun h => .inr ⟨q, h⟩⟩
    generalize hI1 : (fun z => (Cn A F r z ∧ J z) ∨ (¬ Cn A F r z ∧ I z) : Zs) = I1
    have onK : ∀ z, Cn A F r z → (I1 z ↔ J z) := fun z q => by rw [← hI1]; exact onK z q
    have offK : ∀ z, ¬ Cn A F r z → (I1 z ↔ I z) := fun z q => by rw [← hI1]; exact offK z q
    have hind : Ind A I1 := fun x y hx hy hA => by
      by_cases q1 : Cn A F r x
      · by_cases q2 : Cn A F r y
        · exact hJ x y ((onK x q1).mp hx) ((onK y q2).mp hy) hA
        · exact hIs r hr x y q1 q2 ((offK y q2).mp hy) hA
      · by_cases q2 : Cn A F r y
        · exact hIs r hr y x q2 q1 ((offK x q1).mp hx) (G.sy _ _ hA)
        · exact hI x y ((offK x q1).mp hx) ((offK y q2).mp hy) hA
    have same : ∀ r', (∀ z, Cn A F r' z → (I1 z ↔ J z)) ∨ (∀ z, Cn A F r' z → (I1 z ↔ I z)) := fun r' => by
      by_cases q : Cn A F r r'
      · exact .inl fun z hz => onK z (q.trans hz)
      · exact .inr fun z hz => offK z fun h => q (h.trans (hz.symm G.sy))
    have hsep : ∀ r', F r' → Sep A (fun z => Cn A F r' z) I1 := fun r' f' x y hx hy h1 hA => by
      by_cases q : Cn A F r y
      · exact hJs r' f' x y hx hy ((onK y q).mp h1) hA
      · exact hIs r' f' x y hx hy ((offK y q).mp h1) hA
    have hfree : ∀ r', F r' → Free A (fun z => Cn A F r' z) I1 := fun r' f' x hx hK hl => by
      rcases same r' with e | e
      · exact hJf r' f' x ((e x hK).mp hx) hK (lkd_on (fun z hz h => (e z hz).mp h) hl)
      · exact hIf r' f' x ((e x hK).mp hx) hK (lkd_on (fun z hz h => (e z hz).mp h) hl)
    have hcnt1 : ∀ r', F r' → sz vs (fun z => I1 z ∧ Cn A F r' z) = sz vs (fun z => J z ∧ Cn A F r' z) := fun r' f' => by
      rcases same r' with e | e
      · exact sz_congr fun z => ⟨fun h => ⟨(e z h.2).mp h.1, h.2⟩, fun h => ⟨(e z h.2).mpr h.1, h.2⟩⟩
      · rw [← hcnt r' f']
        exact sz_congr fun z => ⟨fun h => ⟨(e z h.2).mp h.1, h.2⟩, fun h => ⟨(e z h.2).mpr h.1, h.2⟩⟩
    have hV : ∀ z, Cn A F r z → V z := fun z q => hF z q.end'
    have mid : Re A (fun z => Cn A F r z) I I1 := main_all G _ _ I I1 (Nat.lt_succ_self _) (fun z q => hVv z (hV z q)) (fun a b ha hb => ((ha.symm G.sy).trans hb).keep fun z q => ha.trans q) hI hind (hIs r hr) (hsep r hr) (hIf r hr) (hfree r hr) (fun z hz => (offK z hz).symm) ((hcnt r hr).trans (hcnt1 r hr).symm)
    refine (mid.mono hV).trans (ih I1 hind (fun z hz => ?_) (fun z hz => ?_) hsep hfree hcnt1 fun z hz => ?_)
    · by_cases q : Cn A F r z
      · exact .inr q.end'
      · exact hIt z ((offK z q).mp hz)
    · exact (offK z fun q => hSF z hz q.end').mpr (hIS z hz)
    · by_cases q : Cn A F r z
      · exact onK z q
      · rw [offK z q]
        exact hag z fun r' h' f' => by
          rcases List.mem_cons.mp h' with rfl | h'
          · exact q
          · exact hz r' h' f'
/-- the same are locked, each part holds as many: one comes from the one to the other -/
theorem parts_re (G : Gr A vs) (hVv : ∀ z, V z → z ∈ vs) (hVc : ∀ a b, A a b → V b) (hI : Ind A I) (hJ : Ind A J) (hIV : ∀ z, I z → V z) (hJV : ∀ z, J z → V z) (hS : ∀ x, Lkd A V I x ↔ Lkd A V J x) (hc : ∀ r, freeF A V I r → sz vs (fun z => I z ∧ Cn A (freeF A V I) r z) = sz vs (fun z => J z ∧ Cn A (freeF A V I) r z)) : Re A V I J := by
  have eF : freeF A V J = freeF A V I := funext fun z => propext (by unfold freeF; simp only [hS])
  refine parts_go G hVv (F := freeF A V I) (fun z q => q.1) (fun z => Lkd A V I z) (fun z q r => r.2.1 q) hJ (fun z hz => ?_) (fun r _ => ?_) (fun r _ => ?_) vs I hI (fun z hz => tok hI hIV hz) (fun z hz => (lkd_in hz).1) (fun r _ => sep_comp hI hIV r) (fun r _ => free_comp G hI hIV hVc r) hc fun z hz => ?_
  · have := tok hJ hJV hz
    rwa [eF, ← hS] at this
  · rw [← eF]; exact sep_comp hJ hJV r
  · rw [← eF]; exact free_comp G hJ hJV hVc r
  · have nf : ¬ freeF A V I z := fun f => hz z (hVv z f.1) f (.refl f)
    constructor
    · intro q
      exact (lkd_in ((hS z).mp ((tok hI hIV q).resolve_right nf))).1
    · intro q
      have := tok hJ hJV q
      rw [eF] at this
      exact (lkd_in ((hS z).mpr (this.resolve_right nf))).1
/-- a slide goes within one part -/
theorem slide_free (G : Gr A vs) (hI : Ind A I) (h : Re A V I J) {x y : Int} (s : Sld A V J x y) : freeF A V I x ∧ freeF A V I y := by
  have hl := fun z => lkd_re (x := z) G hI h
  have nx : ¬ Lkd A V I x := fun q => by
    obtain ⟨C, c1, c2⟩ := (hl x).mp q
    exact (lk_step s c1).1 c2
  refine ⟨⟨s.rx, nx, fun t hA ht => h.ind hI x t s.ix (lkd_in ((hl t).mp ht)).1 hA⟩, s.ry, fun q => s.iy (lkd_in ((hl y).mp q)).1, fun t hA ht => ?_⟩
  obtain ⟨C, c1, c2⟩ := (hl t).mp ht
  have := ((lk_step s c1).2.1 t c2).1
  exact s.ind y t (.inr rfl) this hA
theorem re_count (G : Gr A vs) (hVv : ∀ z, V z → z ∈ vs) (hI : Ind A I) (h : Re A V I J) (r : Int) : sz vs (fun z => J z ∧ Cn A (freeF A V I) r z) = sz vs (fun z => I z ∧ Cn A (freeF A V I) r z) := by
  induction h with
  | refl => rfl
  | @step J x y k s ih =>
    rw [← ih]
    obtain ⟨fx, fy⟩ := slide_free G hI k s
    by_cases q : Cn A (freeF A V I) r x
    · have qy : Cn A (freeF A V I) r y := .step q s.a fy
      rw [← sz_mv (P := fun z => J z ∧ Cn A (freeF A V I) r z) G.nd (hVv _ s.rx) (hVv _ s.ry) ⟨s.ix, q⟩ fun t => s.iy t.1]
      refine sz_congr fun z => ⟨?_, ?_⟩
      · rintro ⟨a | a, b⟩
        · exact .inl ⟨⟨a.1, b⟩, a.2⟩
        · exact .inr a
      · rintro (⟨a, b⟩ | a)
        · exact ⟨.inl ⟨a.1, b⟩, a.2⟩
        · subst a; exact ⟨.inr rfl, qy⟩
    · have qy : ¬ Cn A (freeF A V I) r y := fun t => q (.step t (G.sy _ _ s.a) fx)
      refine sz_congr fun z => ⟨?_, ?_⟩
      · rintro ⟨a | a, b⟩
        · exact ⟨a.1, b⟩
        · subst a; exact absurd b qy
      · rintro ⟨a, b⟩
        exact ⟨.inl ⟨a, by rintro rfl; exact q b⟩, b⟩
/-- a mark is locked just if no slide ever takes it away -/
theorem moved_one (h : Re A V I J) {x : Int} (hx : I x) (hn : ¬ J x) : ∃ L y, Re A V I L ∧ Sld A V L x y := by
  induction h with
  | refl => exact absurd hx hn
  | @step J a b k s ih =>
    by_cases q : J x
    · have : x = a := Classical.byContradiction fun e => hn (.inl ⟨q, e⟩)
      subst this
      exact ⟨J, b, k, s⟩
    · exact ih q
theorem never (G : Gr A vs) (hVc : ∀ a b, A a b → V b) (hI : Ind A I) (hIV : ∀ z, I z → V z) {x : Int} (hx : I x) : Lkd A V I x ↔ ∀ L y, Re A V I L → ¬ Sld A V L x y := by
  constructor
  · intro q L y h s
    exact (slide_free G hI h s).1.2.1 q
  · intro q
    refine Classical.byContradiction fun n => ?_
    obtain ⟨J, j1, j2⟩ := goes G V I hI (fun a b ha hb _ hA => hb (hVc a b hA)) x hx (hIV x hx) n
    obtain ⟨L, y, l1, l2⟩ := moved_one j1 hx j2
    exact q L y l1 l2
end
end
end MS

/-! MsF3: a web that is a tree has no ring; lists of marks and sets of marks. -/
namespace MS
open PySem

inductive Tr : List (Int × Int) → Zs → Prop
  | base : Tr [] (fun z => z = 0)
  | add {es : List (Int × Int)} {K : Zs} {e : Int × Int} {x y : Int} : Tr es K → K y → ¬ K x → (e = (x, y) ∨ e = (y, x)) → Tr (e :: es) (fun z => K z ∨ z = x)
theorem tr_zero {es : List (Int × Int)} {K : Zs} (h : Tr es K) : K 0 := by
  induction h with
  | base => rfl
  | add _ _ _ _ ih => exact .inl ih
theorem tr_ends {es : List (Int × Int)} {K : Zs} (h : Tr es K) : ∀ p ∈ es, K p.1 ∧ K p.2 := by
  induction h with
  | base => intro p hp; cases hp
  | add _ hy _ he ih =>
    intro p hp
    rcases List.mem_cons.mp hp with rfl | hp
    · rcases he with rfl | rfl
      · exact ⟨.inr rfl, .inl hy⟩
      · exact ⟨.inl hy, .inr rfl⟩
    · exact ⟨.inl (ih p hp).1, .inl (ih p hp).2⟩
theorem tr_acyc {es : List (Int × Int)} {K : Zs} (h : Tr es K) : Acyc (Adj es) := by
  induction h with
  | base => intro v a b ha; rcases ha with q | q <;> cases q
  | @add es K e x y ht hy hx he ih =>
    have hK : ∀ a b, Adj es a b → K a ∧ K b := fun a b q => by
      rcases q with q | q
      · exact tr_ends ht _ q
      · exact (tr_ends ht _ q).symm
    have hyx : y ≠ x := by rintro rfl; exact hx hy
    have adj : ∀ a b, Adj (e :: es) a b → Adj es a b ∨ (a = x ∧ b = y) ∨ (a = y ∧ b = x) := fun a b q => by
      rcases q with q | q
      · rcases List.mem_cons.mp q with q | q
        · rcases he with rfl | rfl
          · simp only [Prod.mk.injEq] at q; exact .inr (.inl q)
          · simp only [Prod.mk.injEq] at q; exact .inr (.inr q)
        · exact .inl (.inl q)
      · rcases List.mem_cons.mp q with q | q
        · rcases he with rfl | rfl
          · simp only [Prod.mk.injEq] at q; exact .inr (.inr ⟨q.2, q.1⟩)
          · simp only [Prod.mk.injEq] at q; exact .inr (.inl ⟨q.2, q.1⟩)
        · exact .inl (.inr q)
    have fromx : ∀ b, Adj (e :: es) x b → b = y := fun b q => by
      rcases adj x b q with q | q | q
      · exact absurd (hK x b q).1 hx
      · exact q.2
      · exact absurd q.1.symm hyx
    have tox : ∀ a, Adj (e :: es) a x → a = y := fun a q => fromx a q.symm
    have off : ∀ a b, a ≠ x → b ≠ x → Adj (e :: es) a b → Adj es a b := fun a b ha hb q => by
      rcases adj a b q with q | q | q
      · exact q
      · exact absurd q.1 ha
      · exact absurd q.2 hb
    intro v a b ha hb hp
    by_cases hv : v = x
    · subst hv
      rw [fromx a ha, fromx b hb]
    have path : ∀ z, Cn (Adj (e :: es)) (fun z => z ≠ v) a z → a ≠ x → (z ≠ x → Cn (Adj es) (fun z => z ≠ v) a z) ∧ (z = x → Cn (Adj es) (fun z => z ≠ v) a y) := fun z hz hax => by
      induction hz with
      | refl q => exact ⟨fun _ => .refl q, fun w => absurd w hax⟩
      | @step b c k q r ihp =>
        refine ⟨fun hc => ?_, fun hc => ?_⟩
        · by_cases hbx : b = x
          · subst hbx
            rw [fromx c q]
            exact ihp.2 rfl
          · exact .step (ihp.1 hbx) (off b c hbx hc q) r
        · subst hc
          have := tox b q
          subst this
          exact ihp.1 hyx
    by_cases hax : a = x
    · subst hax
      have := fromx v ha.symm
      subst this
      have stay : ∀ z, Cn (Adj (e :: es)) (fun z => z ≠ v) a z → z = a := fun z hz => by
        induction hz with
        | refl _ => rfl
        | step k q r ihp =>
          subst ihp
          exact absurd (fromx _ q) r
      exact (stay b hp).symm
    · by_cases hbx : b = x
      · subst hbx
        have := fromx v hb.symm
        subst this
        exact absurd rfl ((path b hp hax).2 rfl).end'
      · exact ih v a b (off v a hv hax ha) (off v b hv hbx hb) ((path b hp hax).1 hbx)
theorem cross {nb : Int → List Int} {S : List Int} {K : Zs} {z : Int} (h : Rch nb S 0 z) (h0 : K 0) (hz : ¬ K z) : ∃ y x, K y ∧ ¬ K x ∧ x ∈ nb y ∧ x ∈ S := by
  induction h with
  | refl => exact absurd h0 hz
  | @step x y k q t ih =>
    by_cases e : K x
    · exact ⟨x, y, e, hz, q, t⟩
    · exact ih e
theorem rngZ_nodup (lo n : Int) : (rngZ lo n).Nodup := Up.nodup (rngZ_up lo n)
open Classical in
theorem grow {n : Int} {ps : List (Int × Int)} (hn : 1 ≤ n) (hw : InWeb n ps) (hc : Conn n ps) : ∀ j : Nat, (j : Int) ≤ n - 1 → ∃ es K, Tr es K ∧ (∀ p ∈ es, p ∈ ps) ∧ es.Nodup ∧ es.length = j ∧ (∀ z, K z → z ∈ rngZ 0 n) ∧ sz (rngZ 0 n) K = j + 1
  | 0, _ => by
    have h0 : (0 : Int) ∈ rngZ 0 n := rngZ_mem.mpr ⟨Int.le_refl _, by omega⟩
    refine ⟨[], _, .base, fun p hp => (by cases hp), List.nodup_nil, rfl, fun z hz => by subst hz; exact h0, ?_⟩
    have h1 : sz (rngZ 0 n) (fun z => z = 0) ≤ 1 := sz_one (rngZ_nodup 0 n) fun z hz => hz
    have h2 : sz (rngZ 0 n) (fun z => z = 0) ≠ 0 := fun e => sz_zero e h0 rfl
    omega
  | j + 1, hj => by
    obtain ⟨es, K, h1, h2, h3, h4, h5, h6⟩ := grow hn hw hc j (by omega)
    have hex : ∃ z ∈ rngZ 0 n, ¬ K z := Classical.byContradiction fun q => by
      have : sz (rngZ 0 n) K = (rngZ 0 n).length := by
        unfold sz
        exact List.countP_eq_length.mpr fun z hz => decide_eq_true (Classical.byContradiction fun r => q ⟨z, hz, r⟩)
      rw [rngZ_len] at this
      omega
    obtain ⟨z, hz, hnz⟩ := hex
    obtain ⟨y, x, q1, q2, q3, q4⟩ := cross (hc z hz) (tr_zero h1) hnz
    have hA := nbr_mem.mp q3
    have key : ∃ e, e ∈ ps ∧ (e = (x, y) ∨ e = (y, x)) := by
      rcases hA with q | q
      · exact ⟨_, q, .inr rfl⟩
      · exact ⟨_, q, .inl rfl⟩
    obtain ⟨e, e1, e2⟩ := key
    refine ⟨e :: es, _, .add h1 q1 q2 e2, fun p hp => ?_, List.nodup_cons.mpr ⟨fun q => ?_, h3⟩, by rw [List.length_cons, h4], fun z hz => ?_, ?_⟩
    · rcases List.mem_cons.mp hp with rfl | hp
      · exact e1
      · exact h2 p hp
    · have := tr_ends h1 e q
      rcases e2 with rfl | rfl
      · exact q2 this.1
      · exact q2 this.2
    · rcases hz with hz | rfl
      · exact h5 z hz
      · exact q4
    · rw [sz_add (rngZ_nodup 0 n) q4 q2, h6]
theorem tree_acyc {n m : Int} {ps : List (Int × Int)} (h : GoodWeb n m ps) (hl : (ps.length : Int) = n - 1) (hc : Conn n ps) : Acyc (Adj ps) := by
  obtain ⟨es, K, h1, h2, h3, h4, _, _⟩ := grow h.1 h.2.2.1 hc ps.length (by omega)
  have sub : ∀ p ∈ ps, p ∈ es := fun p hp => Classical.byContradiction fun q => by
    have := List.Nodup.length_le_of_subset (List.nodup_cons.mpr ⟨q, h3⟩) (l₂ := ps) fun z hz => by
      rcases List.mem_cons.mp hz with rfl | hz
      · exact hp
      · exact h2 z hz
    rw [List.length_cons] at this
    omega
  have : Adj ps = Adj es := funext fun a => funext fun b => propext ⟨fun q => q.elim (fun q => .inl (sub _ q)) fun q => .inr (sub _ q), fun q => q.elim (fun q => .inl (h2 _ q)) fun q => .inr (h2 _ q)⟩
  rw [this]
  exact tr_acyc h1
theorem tree_gr {n m : Int} {ps : List (Int × Int)} (h : GoodWeb n m ps) (hl : (ps.length : Int) = n - 1) (hc : Conn n ps) : Gr (Adj ps) (rngZ 0 n) :=
  ⟨fun _ _ q => q.symm, fun a q => (adj_range h.2.2.1 q).2.2 rfl, rngZ_nodup 0 n, tree_acyc h hl hc, fun a b q => rngZ_mem.mpr (adj_range h.2.2.1 q).1, fun q => by have := rngZ_mem.mp q; omega⟩

/-! ### lists and sets -/
def Vn (n : Int) : Zs := fun z => 0 ≤ z ∧ z < n
def setL (l : List Int) : Zs := fun z => z ∈ l
theorem indep_iff {ps : List (Int × Int)} {m : List Int} : indep ps m = true ↔ Ind (Adj ps) (setL m) := by
  unfold indep
  rw [Bool.not_eq_true']
  constructor
  · intro h x y hx hy hA
    have : ∀ p ∈ ps, ¬ (p.1 ∈ m ∧ p.2 ∈ m) := fun p hp q => by
      have : (ps.any fun p => decide (p.1 ∈ m) && decide (p.2 ∈ m)) = true := List.any_eq_true.mpr ⟨p, hp, by rw [Bool.and_eq_true, decide_eq_true_eq, decide_eq_true_eq]; exact q⟩
      rw [h] at this
      cases this
    rcases hA with q | q
    · exact this _ q ⟨hx, hy⟩
    · exact this _ q ⟨hy, hx⟩
  · intro h
    refine Bool.eq_false_iff.mpr fun q => ?_
    obtain ⟨p, hp, e⟩ := List.any_eq_true.mp q
    rw [Bool.and_eq_true, decide_eq_true_eq, decide_eq_true_eq] at e
    exact h p.1 p.2 e.1 e.2 (.inl hp)
theorem setL_mv (ms : List Int) (a b : Int) : setL (movedM ms a b) = mv (setL ms) a b := funext fun z => propext moved_mem
theorem slide_iff {n : Int} {ps : List (Int × Int)} (hw : InWeb n ps) {ms : List Int} {a b : Int} : Slide ps ms a b ↔ Sld (Adj ps) (Vn n) (setL ms) a b := by
  constructor
  · rintro ⟨h1, h2, h3, h4⟩
    have hr := adj_range hw h2
    refine ⟨h1, h2, hr.1, hr.2.1, h3, ?_⟩
    rw [← setL_mv]
    exact indep_iff.mp h4
  · rintro ⟨h1, h2, _, _, h3, h4⟩
    refine ⟨h1, h2, h3, indep_iff.mpr ?_⟩
    rw [setL_mv]
    exact h4
theorem rm_re {n : Int} {ps : List (Int × Int)} (hw : InWeb n ps) {ms x : List Int} (h : Rm ps ms x) : Re (Adj ps) (Vn n) (setL ms) (setL x) := by
  induction h with
  | refl => exact .refl
  | step _ hs ih =>
    rw [setL_mv]
    exact .step ih ((slide_iff hw).mp hs)
theorem re_rm {n : Int} {ps : List (Int × Int)} (hw : InWeb n ps) {ms : List Int} {J : Zs} (h : Re (Adj ps) (Vn n) (setL ms) J) : ∃ x, Rm ps ms x ∧ J = setL x := by
  induction h with
  | refl => exact ⟨ms, .refl, rfl⟩
  | step _ s ih =>
    obtain ⟨x, h1, rfl⟩ := ih
    exact ⟨_, .step h1 ((slide_iff hw).mpr s), (setL_mv _ _ _).symm⟩
theorem up_eq {l m : List Int} (hl : Up l) (hm : Up m) (h : ∀ x, x ∈ l ↔ x ∈ m) : l = m := pw_unique (lt := fun a b => a < b) (fun a b h1 h2 => by omega) hl hm h
theorem rm_iff {n m : Int} {ps : List (Int × Int)} (h : GoodWeb n m ps) {ms g : List Int} (hg : GoodMarks n ps ms) (hgg : GoodMarks n ps g) : Rm ps ms g ↔ Re (Adj ps) (Vn n) (setL ms) (setL g) := by
  refine ⟨rm_re h.2.2.1, fun q => ?_⟩
  obtain ⟨x, h1, h2⟩ := re_rm h.2.2.1 q
  have : x = g := up_eq (h1.good h hg).1.1 hgg.1 fun z => iff_of_eq (congrFun h2 z).symm
  rw [← this]
  exact h1
open Classical in
theorem sz_list {vs c : List Int} {P : Zs} (hv : vs.Nodup) (hc : c.Nodup) (hs : ∀ z ∈ c, z ∈ vs) : sz vs (fun z => P z ∧ z ∈ c) = (c.filter fun z => decide (P z)).length := by
  unfold sz
  rw [List.countP_eq_length_filter]
  refine List.Perm.length_eq ((List.perm_ext_iff_of_nodup (hv.filter _) (hc.filter _)).mpr fun z => ?_)
  simp only [List.mem_filter, decide_eq_true_eq]
  exact ⟨fun q => ⟨q.2.2, q.2.1⟩, fun q => ⟨hs z q.1, q.2, q.1⟩⟩
theorem good_ind {n : Int} {ps : List (Int × Int)} {ms : List Int} (hg : GoodMarks n ps ms) : Ind (Adj ps) (setL ms) := indep_iff.mp hg.2.2
end MS

/-! MsF4: the stiff ones, as the program finds them. -/
namespace MS
open PySem

section
variable {A : Int → Int → Prop} {vs : List Int} {V I : Zs} {w b v : Int}
theorem nob (G : Gr A vs) (hVw : V w) (hb : ¬ V b ∨ A w b) (hA : A w v) {o : Int} (ho : A o v) (hne : o ≠ w) : ∀ t, Cn A (wo V v) o t → t ≠ b := fun t ht e => by
  subst e
  rcases hb with q | q
  · exact q ht.end'.1
  · have hwv : w ≠ v := by rintro rfl; exact G.ir _ hA
    have := G.ac v o w (G.sy _ _ ho) (G.sy _ _ hA) ((Cn.step ht (G.sy _ _ q) ⟨hVw, hwv⟩).mono fun _ q => q.2)
    exact hne this
theorem comp_lt (G : Gr A vs) (hVv : ∀ z, V z → z ∈ vs) (hVc : ∀ a b, A a b → V b) (hVw : V w) (hwb : w ≠ b) (hb : ¬ V b ∨ A w b) (hA : A w v) (hvb : v ≠ b) {o : Int} (ho : A o v) (hne : o ≠ w) : sz vs (fun z => Cn A (wo V v) o z) < sz vs (fun z => Cn A (wo V b) w z) := by
  have nb := nob G hVw hb hA ho hne
  have hov : o ≠ v := by rintro rfl; exact G.ir _ ho
  have hVo : V o := hVc v o (G.sy _ _ ho)
  have hso : Cn A (wo V v) o o := .refl ⟨hVo, hov⟩
  refine sz_lt (v := w) G.nd (fun t ht => ?_) (hVv w hVw) (.refl ⟨hVw, hwb⟩) fun q => hne (G.ac v o w (G.sy _ _ ho) (G.sy _ _ hA) (q.mono fun _ q => q.2))
  have h1 : Cn A (wo V b) w v := .step (.refl ⟨hVw, hwb⟩) hA ⟨hVc w v hA, hvb⟩
  exact (Cn.step h1 (G.sy _ _ ho) ⟨hVo, nb o hso⟩).trans (ht.keep fun z hz => ⟨hz.end'.1, nb z hz⟩)
theorem lk_yes (G : Gr A vs) (hI : Ind A I) (hIV : ∀ z, I z → V z) (hw : I w) (hwb : w ≠ b) (hb : ¬ V b ∨ A w b) (h : ∀ v, A w v → v ≠ b → ∃ o, A o v ∧ o ≠ w ∧ Lkd A (wo V v) I o) : Lkd A (wo V b) I w := by
  have nb : ∀ z, I z → z ≠ b := fun z hz e => by
    subst e
    rcases hb with q | q
    · exact q (hIV z hz)
    · exact hI w z hw hz q
  refine lk_union hw ⟨hIV w hw, hwb⟩ fun v hv hA => ?_
  obtain ⟨o, o1, o2, D, d1, d2⟩ := h v hA hv.2
  exact ⟨o, o1, o2, D, ⟨fun z hz => ⟨(d1.1 z hz).1, ⟨(d1.1 z hz).2.1, nb z (d1.1 z hz).1⟩, (d1.1 z hz).2.2⟩, fun x u hx hu hA => d1.2 x u hx ⟨hu.1.1, hu.2⟩ hA⟩, d2⟩
theorem lk_not (G : Gr A vs) (hVc : ∀ a b, A a b → V b) (hI : Ind A I) (hIV : ∀ z, I z → V z) (hw : I w) (hb : ¬ V b ∨ A w b) (hA : A w v) (hvb : v ≠ b) (h : ∀ o, A o v → o ≠ w → I o → ¬ Lkd A (wo V v) I o) : ¬ Lkd A (wo V b) I w := fun ⟨C, c1, c2⟩ => by
  have hVw := hIV w hw
  have hnv : ∀ z, I z → z ≠ v := fun z hz e => by
    subst e
    exact hI w z hw hz hA
  obtain ⟨o, o1, o2, o3⟩ := c1.2 w v c2 ⟨hVc w v hA, hvb⟩ hA
  have nb := nob G hVw hb hA o3 o2
  have hIo := (c1.1 o o1).1
  refine h o o3 o2 hIo ⟨fun z => C z ∧ Cn A (wo V v) o z, ⟨fun z hz => ⟨(c1.1 z hz.1).1, hz.2.end'⟩, fun x u hx hu hAx => ?_⟩, o1, .refl ⟨hIV o hIo, hnv o hIo⟩⟩
  have hcu : Cn A (wo V v) o u := .step hx.2 hAx hu
  obtain ⟨y, y1, y2, y3⟩ := c1.2 x u hx.1 ⟨hu.1, nb u hcu⟩ hAx
  have hIy := (c1.1 y y1).1
  exact ⟨y, ⟨y1, .step hcu (G.sy _ _ y3) ⟨hIV y hIy, hnv y hIy⟩⟩, y2, y3⟩
end
open Classical in
noncomputable def lkB (n : Int) (ps : List (Int × Int)) (ms : List Int) (b w : Int) : Bool := decide (Lkd (Adj ps) (wo (Vn n) b) (setL ms) w)
open Classical in
theorem lkB_true {n : Int} {ps : List (Int × Int)} {ms : List Int} {b w : Int} : lkB n ps ms b w = true ↔ Lkd (Adj ps) (wo (Vn n) b) (setL ms) w := decide_eq_true_iff
theorem ixS_bes {n : Int} (ps : List (Int × Int)) {a : Int} (h0 : 0 ≤ a) (h1 : a < n) : ixS (.fz (besD (nbr ps) n.toNat)) (.int a) = .ok (.list ((nbr ps a).map .int)) := by
  have eb : ((List.range n.toNat).map fun (i : Nat) => lstI (nbr ps i))[a.toNat]? = some (lstI (nbr ps a)) := by
    rw [List.getElem?_map, List.getElem?_range (by omega)]
    show some (lstI (nbr ps ((a.toNat : Nat) : Int))) = _
    rw [Int.toNat_of_nonneg h0]
  unfold besD
  rw [ixS_l, atD_pos _ _ h0, eb]
  rfl
theorem vn_adj {n : Int} {ps : List (Int × Int)} (hw : InWeb n ps) : ∀ a b, Adj ps a b → Vn n b := fun a b q => (adj_range hw q).2.1
theorem cNe_back {v b : Int} {back : PyData} (hv : 0 ≤ v) (h : (back = .none ∧ b = -1) ∨ back = .int b) : cNe (.int v) back = .ok (!decide (v = b)) := by
  rcases h with ⟨rfl, rfl⟩ | rfl
  · have : ¬ v = -1 := by omega
    rw [decide_eq_false this]
    exact ne_of (sh_int v) sh_none rfl
  · exact cNe_int v b
theorem stiff_rec {n m : Int} {ps : List (Int × Int)} (h : GoodWeb n m ps) (hm : m ≤ 12) (G : Gr (Adj ps) (rngZ 0 n)) {ms : List Int} (hg : GoodMarks n ps ms) : ∀ (k : Nat) (w b : Int) (back : PyData), w ∈ ms → ((back = .none ∧ b = -1) ∨ (back = .int b ∧ Adj ps w b)) → sz (rngZ 0 n) (fun z => Cn (Adj ps) (wo (Vn n) b) w z) ≤ k → r_is_stiff k [.fz (besD (nbr ps) n.toNat), .fz (tupI ms), .fz (.int w), .fz back] = .ok (.bool (lkB n ps ms b w)) := by
  have hVv : ∀ z, Vn n z → z ∈ rngZ 0 n := fun z q => rngZ_mem.mpr q
  have hVc := vn_adj h.2.2.1
  have hI := good_ind hg
  have hIV : ∀ z, setL ms z → Vn n z := hg.2.1
  have hnl : ∀ a, (nbr ps a).length ≤ 1000 := nbr_len (by have := h.2.2.2.2; omega)
  intro k
  induction k with
  | zero =>
    intro w b back hw hb hk
    have hwb : w ≠ b := by
      rcases hb with ⟨_, rfl⟩ | ⟨_, q⟩
      · have := hIV w hw
        unfold Vn at this
        omega
      · rintro rfl
        exact G.ir _ q
    exact absurd (Cn.refl ⟨hIV w hw, hwb⟩) (sz_zero (P := fun z => Cn (Adj ps) (wo (Vn n) b) w z) (Nat.le_zero.mp hk) (hVv w (hIV w hw)))
  | succ k ih =>
    intro w b back hw hb hk
    have hVw := hIV w hw
    have hVw' := hVw
    unfold Vn at hVw'
    have hwb : w ≠ b := by
      rcases hb with ⟨_, rfl⟩ | ⟨_, q⟩
      · omega
      · rintro rfl
        exact G.ir _ q
    have hb' : ¬ Vn n b ∨ Adj ps w b := by
      rcases hb with ⟨_, rfl⟩ | ⟨_, q⟩
      · exact .inl fun q => by unfold Vn at q; omega
      · exact .inr q
    have hb2 : (back = .none ∧ b = -1) ∨ back = .int b := hb.imp id (·.1)
    rw [r_is_stiff]
    refine wp_run [.fz (besD (nbr ps) n.toNat), .fz (tupI ms), .fz (.int w), .fz back, .nil, .nil, .nil] ?_
    have e0 := ixS_bes (n := n) ps hVw'.1 hVw'.2
    refine wp_seq (wp_for (ds := (nbr ps w).map .int) (by simp [e0]) (fun i ρ => (∃ s4 s5 s6, ρ = [.fz (besD (nbr ps) n.toNat), .fz (tupI ms), .fz (.int w), .fz back, s4, s5, s6]) ∧ ∀ v, v ∈ (nbr ps w).take i → v ≠ b → ∃ o, Adj ps o v ∧ o ≠ w ∧ Lkd (Adj ps) (wo (Vn n) v) (setL ms) o) ⟨⟨_, _, _, rfl⟩, fun v hv => by simp at hv⟩ ?_ ?_)
    · rintro i d ρ hd ⟨⟨s4, s5, s6, rfl⟩, hk1⟩
      rw [List.getElem?_map] at hd
      cases ea : (nbr ps w)[i]? with
      | none => rw [ea] at hd; cases hd
      | some v =>
        rw [ea] at hd
        cases hd
        have hA := nbr_mem.mp (List.mem_of_getElem? ea)
        have hVv' := hVc w v hA
        unfold Vn at hVv'
        have etk : (nbr ps w).take (i + 1) = (nbr ps w).take i ++ [v] := by rw [List.take_add_one, ea]; rfl
        have hne := cNe_back hVv'.1 hb2
        refine ⟨_, rfl, ?_⟩
        refine wp_if (b := !decide (v = b)) (by simp [hne]) (fun q => ?_) (fun q => wp_nx ⟨⟨_, _, _, rfl⟩, fun u hu hub => ?_⟩)
        · have hvb : v ≠ b := by rw [Bool.not_eq_true'] at q; exact of_decide_eq_false q
          have e1 := ixS_bes (n := n) ps hVv'.1 hVv'.2
          generalize hah : ((nbr ps v).filter fun o => !decide (o = w) && decide (o ∈ ms)) = ah
          have ham : ∀ o, o ∈ ah ↔ Adj ps o v ∧ o ≠ w ∧ o ∈ ms := fun o => by
            rw [← hah, List.mem_filter, Bool.and_eq_true, Bool.not_eq_true', decide_eq_false_iff_not, decide_eq_true_eq]
            exact and_congr (nbr_mem.trans ⟨Adj.symm, Adj.symm⟩) Iff.rfl
          have hal : ah.length ≤ 1000 := by
            rw [← hah]
            exact Nat.le_trans (List.length_filter_le _ _) (hnl v)
          have ec1 : lComp (iSeq (bOf (dIx (bVar 0) (dVar 4)))) (gN 6) (tAnd (tCmp cNe (dVar 6) (dVar 2)) (tIn (dVar 6) (bVar 1))) (dVar 6) [6] [.fz (besD (nbr ps) n.toNat), .fz (tupI ms), .fz (.int w), .fz back, .fz (.int v), s5, s6] = .ok (ah.map PyData.int) := by
            rw [← hah]
            refine lcomp_t (f := PyData.int) (xs := nbr ps v) (by simp [e1]) rfl (Nat.le_trans (hnl v) (by decide)) fun o _ => ⟨_, rfl, ?_, fun _ => by simp [wipeE]⟩
            simp [wipeE]
            by_cases q : o = w <;> simp [q]
          refine wp_seq (wp_set (d := lstI ah) ?_ ?_)
          · rw [dLst_e]
            show (lComp _ _ _ _ _ [.fz (besD (nbr ps) n.toNat), .fz (tupI ms), .fz (.int w), .fz back, .fz (.int v), s5, s6]).bind _ = _
            rw [ec1]
            rfl
          have ec2 : dAny (dLst (lComp (iSeq (bVar 5)) (gN 6) tYes (dCall (r_is_stiff k) (saCons (bVar 0) (saCons (bVar 1) (saCons (bVar 6) (saCons (bVar 4) saNil))))) [6])) [.fz (besD (nbr ps) n.toNat), .fz (tupI ms), .fz (.int w), .fz back, .fz (.int v), .fz (lstI ah), s6] = .ok (.bool (ah.any fun o => lkB n ps ms v o)) := by
            have : lComp (iSeq (bVar 5)) (gN 6) tYes (dCall (r_is_stiff k) (saCons (bVar 0) (saCons (bVar 1) (saCons (bVar 6) (saCons (bVar 4) saNil))))) [6] [.fz (besD (nbr ps) n.toNat), .fz (tupI ms), .fz (.int w), .fz back, .fz (.int v), .fz (lstI ah), s6] = .ok (ah.map fun o => .bool (lkB n ps ms v o)) := by
              refine lcomp_a (f := PyData.int) (xs := ah) rfl rfl (by omega) fun o ho => ⟨_, rfl, ?_⟩
              obtain ⟨o1, o2, o3⟩ := (ham o).mp ho
              have hlt := comp_lt G hVv hVc hVw hwb hb' hA hvb o1 o2
              have := ih o v (.int v) o3 (.inr ⟨rfl, o1⟩) (by omega)
              simp [wipeE, this]
            rw [dAny_e, dLst_e, this]
            simp only [Rs.bind_ok]
            exact anyD_map _ _
          refine wp_if (b := !(ah.any fun o => lkB n ps ms v o)) ?_ (fun q2 => ?_) (fun q2 => ?_)
          · show tNot _ [.fz (besD (nbr ps) n.toNat), .fz (tupI ms), .fz (.int w), .fz back, .fz (.int v), .fz (lstI ah), s6] = _
            rw [tNot_e, tTru_e, bOf_e, ec2]
            rfl
          · rw [Bool.not_eq_true'] at q2
            have : lkB n ps ms b w = false := by
              refine Bool.eq_false_iff.mpr fun q3 => ?_
              refine lk_not G hVc hI hIV hw hb' hA hvb (fun o o1 o2 o3 o4 => ?_) (lkB_true.mp q3)
              have : (ah.any fun o => lkB n ps ms v o) = true := List.any_eq_true.mpr ⟨o, (ham o).mpr ⟨o1, o2, o3⟩, lkB_true.mpr o4⟩
              rw [q2] at this
              cases this
            rw [this]
            exact wp_ret rfl rfl
          · rw [Bool.not_eq_false'] at q2
            obtain ⟨o, ho, ho2⟩ := List.any_eq_true.mp q2
            obtain ⟨o1, o2, o3⟩ := (ham o).mp ho
            refine wp_nx ⟨⟨_, _, _, rfl⟩, fun u hu hub => ?_⟩
            rw [etk] at hu
            rcases List.mem_append.mp hu with r | r
            · exact hk1 u r hub
            · have : u = v := by simpa using r
              subst this
              exact ⟨o, o1, o2, lkB_true.mp ho2⟩
        · rw [etk] at hu
          rw [Bool.not_eq_false'] at q
          rcases List.mem_append.mp hu with r | r
          · exact hk1 u r hub
          · have : u = v := by simpa using r
            subst this
            exact absurd (of_decide_eq_true q) hub
    · rintro ρ ⟨⟨s4, s5, s6, rfl⟩, hk1⟩
      rw [List.length_map, List.take_length] at hk1
      have : lkB n ps ms b w = true := lkB_true.mpr (lk_yes G hI hIV hw hwb hb' fun v hA hvb => hk1 v (nbr_mem.mpr hA) hvb)
      rw [this]
      exact wp_ret rfl rfl
open Classical in
/-- the stiff ones -/
noncomputable def stM (n : Int) (ps : List (Int × Int)) (ms : List Int) : List Int := ms.filter fun w => decide (Lkd (Adj ps) (Vn n) (setL ms) w)
theorem wo_none {n : Int} : wo (Vn n) (-1) = Vn n := funext fun z => propext ⟨fun q => q.1, fun q => ⟨q, by unfold Vn at q; omega⟩⟩
theorem stM_mem {n : Int} {ps : List (Int × Int)} {ms : List Int} {w : Int} : w ∈ stM n ps ms ↔ Lkd (Adj ps) (Vn n) (setL ms) w := by
  unfold stM
  simp only [List.mem_filter, decide_eq_true_eq]
  exact ⟨fun q => q.2, fun q => ⟨(lkd_in q).1, q⟩⟩
theorem stM_up {n : Int} {ps : List (Int × Int)} {ms : List Int} (h : Up ms) : Up (stM n ps ms) := h.filter _
section
variable {n m : Int} {ps : List (Int × Int)} (h : GoodWeb n m ps) (hm : m ≤ 10) {ms : List Int} (hg : GoodMarks n ps ms) (hl : ms.length ≤ 4)
include h hm hg hl
theorem look_tree_den {b : Bool} (hb : d_is_tree [.fz (webP n ps)] = .ok (.bool b)) : d_look_tree [.fz (webP n ps), .fz (tupI ms)] = if b = true then .ok .none else .er .tree := by
  have hlm := look_good h (by omega) hg hl
  refine wp_run [.fz (webP n ps), .fz (tupI ms)] ?_
  refine wp_seq (wp_expr (d := .none) (by simp [hlm]) ?_)
  refine wp_if (b := !b) (by simp [hb]) (fun q => ?_) (fun q => ?_)
  · rw [Bool.not_eq_true'] at q
    subst q
    exact wp_raise rfl
  · rw [Bool.not_eq_false'] at q
    subst q
    exact wp_nx rfl
theorem stiff_den (hb : d_is_tree [.fz (webP n ps)] = .ok (.bool true)) (G : Gr (Adj ps) (rngZ 0 n)) : d_stiff [.fz (webP n ps), .fz (tupI ms)] = .ok (tupI (stM n ps ms)) := by
  have hlt := look_tree_den h hm hg hl hb
  rw [if_pos rfl] at hlt
  have hnd := near_den h (by omega)
  rw [besD_near] at hnd
  refine wp_run [.fz (webP n ps), .fz (tupI ms), .nil, .nil] ?_
  refine wp_seq (wp_expr (d := .none) (by simp [hlt]) ?_)
  refine wp_seq (wp_set (d := besD (nbr ps) n.toNat) (by simp [hnd]) ?_)
  refine wp_ret (d := tupI (stM n ps ms)) ?_ rfl
  have hst : ms.filter (fun w => lkB n ps ms (-1) w) = stM n ps ms := by
    unfold stM lkB
    rw [wo_none]
  have ec : lComp (iSeq (bVar 1)) (gN 3) (tTru (bOf (dCall d_is_stiff (saCons (bVar 2) (saCons (bVar 1) (saCons (bVar 3) (saCons (bOf (dC .none)) saNil))))))) (dVar 3) [3] [.fz (webP n ps), .fz (tupI ms), .fz (besD (nbr ps) n.toNat), .nil] = .ok ((stM n ps ms).map PyData.int) := by
    rw [← hst]
    refine lcomp_t (f := PyData.int) (xs := ms) rfl rfl (by omega) fun w hw => ⟨_, rfl, ?_, fun _ => by simp [wipeE]⟩
    have hsz : sz (rngZ 0 n) (fun z => Cn (Adj ps) (wo (Vn n) (-1)) w z) ≤ 10 := by
      have h1 : sz (rngZ 0 n) (fun z => Cn (Adj ps) (wo (Vn n) (-1)) w z) ≤ (rngZ 0 n).length := List.countP_le_length
      rw [rngZ_len] at h1
      have := h.2.1
      omega
    have := stiff_rec h (by omega) G hg 10 w (-1) .none hw (.inl ⟨rfl, rfl⟩) hsz
    have e : d_is_stiff = r_is_stiff 10 := rfl
    simp [wipeE, e, this]
  rw [dTuple_e, dLst_e]
  show ((lComp _ _ _ _ _ [.fz (webP n ps), .fz (tupI ms), .fz (besD (nbr ps) n.toNat), .nil]).bind _).bind _ = _
  rw [ec]
  rfl
end
end MS

/-! MsF5: the parts, by their least spots; the free parts. -/
namespace MS
open PySem

/-- s is the least of c -/
def Hd (c : List Int) (s : Int) : Prop := s ∈ c ∧ ∀ x ∈ c, s ≤ x
def HdLt (c c' : List Int) : Prop := ∃ s s', Hd c s ∧ Hd c' s' ∧ s < s'
structure PartsOf (nb : Int → List Int) (S : List Int) (cs : List (List Int)) : Prop where
  each : ∀ c ∈ cs, IsPart nb S c
  cov : ∀ x ∈ S, ∃ c ∈ cs, x ∈ c
  hds : cs.Pairwise HdLt
theorem up_ge {S : List Int} (h : Up S) {i : Nat} {s x : Int} (hs : S[i]? = some s) (hx : x ∈ S) (hn : x ∉ S.take i) : s ≤ x := by
  obtain ⟨hi, rfl⟩ := List.getElem?_eq_some_iff.mp hs
  obtain ⟨j, hj, rfl⟩ := List.mem_iff_getElem.mp hx
  have hij : i ≤ j := Nat.le_of_not_lt fun q => hn (by
    rw [List.mem_take_iff_getElem]
    exact ⟨j, by omega, rfl⟩)
  rcases Nat.lt_or_ge i j with q | q
  · have := List.pairwise_iff_getElem.mp h i j hi hj q
    omega
  · have : i = j := by omega
    subst this
    exact Int.le_refl _
theorem up_lt {S : List Int} (h : Up S) {i : Nat} {s x : Int} (hs : S[i]? = some s) (hx : x ∈ S.take i) : x < s := by
  obtain ⟨hi, rfl⟩ := List.getElem?_eq_some_iff.mp hs
  rw [List.mem_take_iff_getElem] at hx
  obtain ⟨j, hj, rfl⟩ := hx
  exact List.pairwise_iff_getElem.mp h j i (by omega) hi (by omega)
theorem hd_one {c : List Int} {s t : Int} (h : Hd c s) (k : Hd c t) : s = t := by
  have h1 := h.2 t k.1
  have h2 := k.2 s h.1
  omega
theorem part_mem {nb : Int → List Int} {S c : List Int} (hsy : ∀ x y, y ∈ nb x → x ∈ nb y) (h : IsPart nb S c) {r : Int} (hr : r ∈ c) {x : Int} : x ∈ c ↔ Rch nb S r x := by
  obtain ⟨q, q1, q2⟩ := h.root
  constructor
  · intro hx
    exact (Rch.symm hsy (h.sub q q1) (q2 r hr)).1.trans (q2 x hx)
  · intro hx
    exact Rch.shut h.shut hr hx
theorem parts_unique {nb : Int → List Int} {S : List Int} (hsy : ∀ x y, y ∈ nb x → x ∈ nb y) {cs cs' : List (List Int)} (h : PartsOf nb S cs) (k : PartsOf nb S cs') : cs = cs' := by
  have key : ∀ {cs cs' : List (List Int)}, PartsOf nb S cs → PartsOf nb S cs' → ∀ c ∈ cs, c ∈ cs' := fun {cs cs'} h k c hc => by
    have hp := h.each c hc
    obtain ⟨r, r1, _⟩ := hp.root
    obtain ⟨c', c1, c2⟩ := k.cov r (hp.sub r r1)
    have : c = c' := up_eq hp.up (k.each c' c1).up fun x => (part_mem hsy hp r1).trans (part_mem hsy (k.each c' c1) c2).symm
    rw [this]
    exact c1
  refine pw_unique (lt := HdLt) (fun a b h1 h2 => ?_) h.hds k.hds fun c => ⟨key h k c, key k h c⟩
  obtain ⟨s, t, a1, a2, a3⟩ := h1
  obtain ⟨u, v, b1, b2, b3⟩ := h2
  have e1 := hd_one a1 b2
  have e2 := hd_one a2 b1
  omega
theorem parts_hd {nb : Int → List Int} {n : Nat} {S : List Int} (hn : ∀ i, (nb i).Nodup) (hl : ∀ i, (nb i).length ≤ 1000) (hS : ∀ x ∈ S, 0 ≤ x ∧ x < n) (hSl : S.length ≤ 1000) (hsy : ∀ x y, y ∈ nb x → x ∈ nb y) (hup : Up S) :
    ∃ cs, d_parts [.fz (besD nb n), .fz (lstI S)] = .ok (.list (cs.map lstI)) ∧ PartsOf nb S cs := by
  refine run_ex (as := [.fz (besD nb n), .fz (lstI S)]) (n := 7) (Q := fun r => ∃ cs, r = .ok (.list (cs.map lstI)) ∧ PartsOf nb S cs) [.fz (besD nb n), .fz (lstI S), .nil, .nil, .nil, .nil, .nil] ?_
  refine wp_seq (wp_own (ds := []) rfl ?_)
  refine wp_seq (wp_for (ds := S.map .int) rfl (fun i ρ => ∃ cs s3 s4 s5 s6, ρ = [.fz (besD nb n), .fz (lstI S), .ow (cs.map lstI), s3, s4, s5, s6] ∧ PSpec nb S cs ∧ (∀ x ∈ S.take i, ∃ c ∈ cs, x ∈ c) ∧ cs.length ≤ i ∧ (∀ c ∈ cs, ∃ s ∈ S.take i, Hd c s) ∧ cs.Pairwise HdLt) ⟨[], _, _, _, _, rfl, ⟨fun c hc => by simp at hc, List.Pairwise.nil⟩, fun x hx => by simp at hx, Nat.le_refl _, fun c hc => by simp at hc, List.Pairwise.nil⟩ ?_ ?_)
  · rintro i d ρ hd ⟨cs, s3, s4, s5, s6, rfl, hP, hc, hcl, hhd, hlt'⟩
    rw [List.getElem?_map] at hd
    cases ex : S[i]? with
    | none => rw [ex] at hd; cases hd
    | some spot =>
      rw [ex] at hd
      cases hd
      have hspot : spot ∈ S := List.mem_of_getElem? ex
      have hi : i < S.length := (List.getElem?_eq_some_iff.mp ex).1
      have htake : S.take (i + 1) = S.take i ++ [spot] := by rw [List.take_add_one, ex]; rfl
      refine ⟨_, rfl, ?_⟩
      refine wp_if (b := !(cs.any fun c => decide (spot ∈ c))) ?_ (fun hb => ?_) (fun hb => ?_)
      · have : lComp (iSeq (bVar 2)) (gN 4) tYes (dT (tIn (dVar 3) (bVar 4))) [4] [.fz (besD nb n), .fz (lstI S), .ow (cs.map lstI), .fz (.int spot), s4, s5, s6] = .ok (cs.map fun c => .bool (decide (spot ∈ c))) := by
          refine lcomp_a (f := lstI) rfl rfl (by omega) fun c _ => ⟨_, rfl, ?_⟩
          simp [wipeE]
        rw [tNot_e, tTru_e, bOf_e, dAny_e, dLst_e]
        show (((((lComp (iSeq (bVar 2)) (gN 4) tYes (dT (tIn (dVar 3) (bVar 4))) [4] [.fz (besD nb n), .fz (lstI S), .ow (cs.map lstI), .fz (.int spot), s4, s5, s6]).bind fun ds => .ok (PyData.list ds)).bind anyD).bind fun d => .ok (Sl.fz d)).bind truS).bind (fun b => Rs.ok !b) = _
        rw [this]
        simp only [Rs.bind_ok, anyD_map, truS_b]
      · -- a new part
        have hnot : ∀ c ∈ cs, spot ∉ c := fun c hc' hx => by
          have : (cs.any fun c => decide (spot ∈ c)) = true := List.any_eq_true.mpr ⟨c, hc', decide_eq_true hx⟩
          rw [this] at hb
          cases hb
        refine wp_seq (wp_own (ds := [.int spot]) rfl ?_)
        refine wp_seq (wp_set (d := .int 0) rfl ?_)
        refine wp_seq (wp_while (fun m ρ => ∃ part a s6, ρ = [.fz (besD nb n), .fz (lstI S), .ow (cs.map lstI), .fz (.int spot), .ow (part.map .int), .fz (.int (a : Nat)), s6] ∧ part.Nodup ∧ (∀ x ∈ part, x ∈ S) ∧ (∀ x ∈ part, Rch nb S spot x) ∧ spot ∈ part ∧ a ≤ part.length ∧ (∀ x ∈ part.take a, ∀ y ∈ nb x, y ∈ S → y ∈ part) ∧ m = S.length - a)
          (m := S.length) (Nat.lt_of_le_of_lt hSl (by decide)) ⟨[spot], 0, s6, rfl, by simp, fun x hx => by
            have : x = spot := by simpa using hx
            subst this; exact hspot, fun x hx => by
            have : x = spot := by simpa using hx
            subst this; exact .refl _, by simp, Nat.zero_le _, fun x hx => by simp at hx, by simp⟩ ?_)
        rintro m ρ ⟨part, a, t6, rfl, p1, p2, p3, p4, p5, p6, rfl⟩
        have hpl : part.length ≤ S.length := nodup_le p1 p2
        by_cases hlt : a < part.length
        · refine .inr ⟨?_, ?_⟩
          · simp [hlt]
          · have hx : part[a] ∈ part := List.getElem_mem hlt
            have hxS := hS _ (p2 _ hx)
            have ep : part[a]? = some part[a] := List.getElem?_eq_getElem hlt
            have htk : part.take (a + 1) = part.take a ++ [part[a]] := by rw [List.take_add_one, ep]; rfl
            generalize part[a] = x at *
            generalize hnew : (nb x).filter (fun y => decide (y ∈ S) && !decide (y ∈ part)) = new
            have hnm : ∀ y, y ∈ new ↔ y ∈ nb x ∧ y ∈ S ∧ y ∉ part := fun y => by
              rw [← hnew, List.mem_filter, Bool.and_eq_true, decide_eq_true_eq, Bool.not_eq_true', decide_eq_false_iff_not]
            have hnl : new.length ≤ 1000 := by
              rw [← hnew]
              exact Nat.le_trans (List.length_filter_le _ _) (hl x)
            refine wp_seq (wp_ext (ds := part.map .int) (es := new.map .int) rfl ?_ (by rw [List.length_map, List.length_map]; omega) ?_)
            · rw [← hnew]
              refine lcomp_t (f := PyData.int) ?_ rfl (Nat.le_trans (hl x) (by decide)) fun y _ => ⟨_, rfl, ?_, fun _ => rfl⟩
              · have eb : ((List.range n).map fun (i : Nat) => lstI (nb i))[x.toNat]? = some (lstI (nb x)) := by
                  rw [List.getElem?_map, List.getElem?_range (by omega)]
                  show some (lstI (nb ((x.toNat : Nat) : Int))) = _
                  rw [Int.toNat_of_nonneg hxS.1]
                simp [ep, besD, atD_pos _ x hxS.1, eb]
              · simp [wipeE]
                by_cases q : y ∈ S <;> simp [q]
            refine wp_set (d := .int ((a + 1 : Nat) : Int)) (by simp) ⟨S.length - (a + 1), by omega, part ++ new, a + 1, t6, by rw [List.map_append]; rfl, ?_, fun y hy => ?_, fun y hy => ?_, List.mem_append_left _ p4, by rw [List.length_append]; omega, ?_, rfl⟩
            · rw [List.nodup_append]
              refine ⟨p1, ?_, fun u hu v hv e => ?_⟩
              · rw [← hnew]
                exact (hn x).filter _
              · subst e
                exact ((hnm u).mp hv).2.2 hu
            · rcases List.mem_append.mp hy with q | q
              · exact p2 y q
              · exact ((hnm y).mp q).2.1
            · rcases List.mem_append.mp hy with q | q
              · exact p3 y q
              · obtain ⟨z1, z2, _⟩ := (hnm y).mp q
                exact .step (p3 x hx) z1 z2
            · intro u hu y hy hyS
              rw [List.take_append_of_le_length (by omega), htk] at hu
              rw [List.mem_append]
              by_cases hyp : y ∈ part
              · exact .inl hyp
              · rcases List.mem_append.mp hu with q | q
                · exact .inl (p6 u q y hy hyS)
                · have : u = x := by simpa using q
                  subst this
                  exact .inr ((hnm y).mpr ⟨hy, hyS, hyp⟩)
        · refine .inl ⟨by simp [hlt], ?_⟩
          have ha : a = part.length := by omega
          subst ha
          rw [List.take_length] at p6
          have so : sortS (.ow (part.map .int)) = .ok ((sortZ part).map .int) := sortD_ints (by omega)
          refine wp_app (ds := cs.map lstI) (d := lstI (sortZ part)) rfl (by simp [so]) (by rw [List.length_map]; omega) ?_
          have hm : ∀ x, x ∈ sortZ part ↔ x ∈ part := fun x => (sortZ_perm part).mem_iff
          have hdn : Hd (sortZ part) spot := ⟨(hm _).mpr p4, fun x hx => by
            have hxp := (hm x).mp hx
            refine up_ge hup ex (p2 x hxp) fun hxt => ?_
            obtain ⟨c, hc1, hc2⟩ := hc x hxt
            exact hnot c hc1 (Rch.shut (hP.each c hc1).shut hc2 (Rch.symm hsy hspot (p3 x hxp)).1)⟩
          refine ⟨cs ++ [sortZ part], _, _, _, _, by rw [List.map_append]; rfl, ⟨fun c hc' => ?_, ?_⟩, fun x hx => ?_, by rw [List.length_append, List.length_singleton]; omega, fun c hc' => ?_, ?_⟩
          · rcases List.mem_append.mp hc' with q | q
            · exact hP.each c q
            · have : c = sortZ part := by simpa using q
              subst this
              exact ⟨sortZ_up p1, fun x hx => p2 x ((hm x).mp hx), ⟨spot, (hm _).mpr p4, fun x hx => p3 x ((hm x).mp hx)⟩, fun x hx y hy hyS => (hm y).mpr (p6 x ((hm x).mp hx) y hy hyS)⟩
          · refine List.pairwise_append.mpr ⟨hP.new, List.pairwise_singleton _ _, fun c hc' c' hc2 => ?_⟩
            have : c' = sortZ part := by simpa using hc2
            subst this
            exact ⟨spot, (hm _).mpr p4, hnot c hc'⟩
          · rw [htake] at hx
            rcases List.mem_append.mp hx with q | q
            · obtain ⟨c, h1, h2⟩ := hc x q
              exact ⟨c, List.mem_append_left _ h1, h2⟩
            · have : x = spot := by simpa using q
              subst this
              exact ⟨sortZ part, by simp, (hm _).mpr p4⟩
          · rw [htake]
            rcases List.mem_append.mp hc' with q | q
            · obtain ⟨s, h1, h2⟩ := hhd c q
              exact ⟨s, List.mem_append_left _ h1, h2⟩
            · have : c = sortZ part := by simpa using q
              subst this
              exact ⟨spot, by simp, hdn⟩
          · refine List.pairwise_append.mpr ⟨hlt', List.pairwise_singleton _ _, fun c hc' c' hc2 => ?_⟩
            have : c' = sortZ part := by simpa using hc2
            subst this
            obtain ⟨s, h1, h2⟩ := hhd c hc'
            exact ⟨s, spot, h2, hdn, up_lt hup ex h1⟩
      · refine wp_nx ⟨cs, _, _, _, _, rfl, hP, fun x hx => ?_, by omega, fun c hc' => (let ⟨s, h1, h2⟩ := hhd c hc'; ⟨s, by rw [htake]; exact List.mem_append_left _ h1, h2⟩), hlt'⟩
        rw [htake] at hx
        rcases List.mem_append.mp hx with q | q
        · exact hc x q
        · have : x = spot := by simpa using q
          subst this
          have : (cs.any fun c => decide (x ∈ c)) = true := by
            cases e : (cs.any fun c => decide (x ∈ c)) with
            | true => rfl
            | false => rw [e] at hb; cases hb
          obtain ⟨c, h1, h2⟩ := List.any_eq_true.mp this
          exact ⟨c, h1, of_decide_eq_true h2⟩
  · rintro ρ ⟨cs, s3, s4, s5, s6, rfl, hP, hc, hcl, hhd, hlt'⟩
    rw [List.length_map, List.take_length] at hc
    refine wp_seq (wp_frz rfl ?_)
    exact wp_ret rfl ⟨cs, rfl, hP.each, hc, hlt'⟩

/-! ### the free parts -/
/-- what is neither stiff nor touches what is -/
def frM (n : Int) (ps : List (Int × Int)) (st : List Int) : List Int := (rngZ 0 n).filter fun z => !decide (z ∈ st) && !((nbr ps z).any fun o => decide (o ∈ st))
def cntM (ms c : List Int) : Nat := (c.filter fun z => decide (z ∈ ms)).length
def fpD (ms : List Int) (c : List Int) : PyData := .tuple [lstI c, .int (cntM ms c)]
theorem frM_up (n : Int) (ps : List (Int × Int)) (st : List Int) : Up (frM n ps st) := (rngZ_up 0 n).filter _
theorem frM_in {n : Int} {ps : List (Int × Int)} {st : List Int} {z : Int} (h : z ∈ frM n ps st) : 0 ≤ z ∧ z < n := rngZ_mem.mp (List.mem_filter.mp h).1
theorem frM_mem {n : Int} {ps : List (Int × Int)} {ms : List Int} {z : Int} : z ∈ frM n ps (stM n ps ms) ↔ freeF (Adj ps) (Vn n) (setL ms) z := by
  unfold frM freeF
  rw [List.mem_filter, Bool.and_eq_true, Bool.not_eq_true', Bool.not_eq_true', decide_eq_false_iff_not, stM_mem, rngZ_mem]
  refine and_congr Iff.rfl (and_congr Iff.rfl ⟨fun q s hA hs => ?_, fun q => ?_⟩)
  · have : ((nbr ps z).any fun o => decide (o ∈ stM n ps ms)) = true := List.any_eq_true.mpr ⟨s, nbr_mem.mpr hA, decide_eq_true (stM_mem.mpr hs)⟩
    rw [q] at this
    cases this
  · refine Bool.eq_false_iff.mpr fun r => ?_
    obtain ⟨o, o1, o2⟩ := List.any_eq_true.mp r
    exact q o (nbr_mem.mp o1) (stM_mem.mp (of_decide_eq_true o2))
theorem rch_cn {ps : List (Int × Int)} {S : List Int} {r x : Int} (hr : r ∈ S) : Rch (nbr ps) S r x ↔ Cn (Adj ps) (fun z => z ∈ S) r x := by
  constructor
  · intro h
    induction h with
    | refl => exact .refl hr
    | step _ q t ih => exact .step ih (nbr_mem.mp q) t
  · intro h
    induction h with
    | refl _ => exact .refl _
    | step _ q t ih => exact .step ih (nbr_mem.mpr q) t
section
variable {n m : Int} {ps : List (Int × Int)} (h : GoodWeb n m ps) (hm : m ≤ 10) {ms : List Int} (hg : GoodMarks n ps ms) (hl : ms.length ≤ 4)
include h hm
theorem parts_fr (st : List Int) : ∃ cs, d_parts [.fz (besD (nbr ps) n.toNat), .fz (lstI (frM n ps st))] = .ok (.list (cs.map lstI)) ∧ PartsOf (nbr ps) (frM n ps st) cs := by
  have hlt : ∀ q ∈ ps, q.1 < q.2 := fun q hq => (h.2.2.1 q hq).2.1
  refine parts_hd (nb := nbr ps) (n := n.toNat) (fun i => (nbr_up h.2.2.2.1 hlt i).nodup) (nbr_len (by have := h.2.2.2.2; omega)) (fun x hx => by have := frM_in hx; omega) ?_ (nbr_symm ps) (frM_up n ps st)
  have h1 : (frM n ps st).length ≤ (rngZ 0 n).length := List.length_filter_le _ _
  rw [rngZ_len] at h1
  have := h.2.1
  omega
include hg hl
theorem free_parts_den (hb : d_is_tree [.fz (webP n ps)] = .ok (.bool true)) (G : Gr (Adj ps) (rngZ 0 n)) : ∃ cs, d_free_parts [.fz (webP n ps), .fz (tupI ms)] = .ok (.list (cs.map (fpD ms))) ∧ PartsOf (nbr ps) (frM n ps (stM n ps ms)) cs := by
  have hst := stiff_den h hm hg hl hb G
  have hnd := near_den h (by omega)
  rw [besD_near] at hnd
  obtain ⟨cs, hcs, hP⟩ := parts_fr h hm (stM n ps ms)
  refine ⟨cs, ?_, hP⟩
  have hn2 := h.2.1
  have hn1 := h.1
  have hnl : ∀ a, (nbr ps a).length ≤ 1000 := nbr_len (by have := h.2.2.2.2; omega)
  refine wp_run [.fz (webP n ps), .fz (tupI ms), .nil, .nil, .nil, .nil, .nil, .nil] ?_
  refine wp_seq (wp_set (d := tupI (stM n ps ms)) (by simp [hst]) ?_)
  refine wp_seq (wp_set (d := besD (nbr ps) n.toNat) (by simp [hnd]) ?_)
  refine wp_seq (wp_own (ds := []) rfl ?_)
  have hfl : (frM n ps (stM n ps ms)).length ≤ 10 := by
    have h1 : (frM n ps (stM n ps ms)).length ≤ (rngZ 0 n).length := List.length_filter_le _ _
    rw [rngZ_len] at h1
    omega
  unfold frM at *
  generalize hst' : stM n ps ms = st at *
  generalize hpr : (fun z => !decide (z ∈ st) && !((nbr ps z).any fun o => decide (o ∈ st))) = pr at *
  refine wp_seq (wp_for (ds := rngD 0 n.toNat) ?_ (fun i ρ => ∃ s5 s6 s7, ρ = [.fz (webP n ps), .fz (tupI ms), .fz (tupI st), .fz (besD (nbr ps) n.toNat), .ow ((((rngZ 0 n).take i).filter pr).map .int), s5, s6, s7]) ⟨_, _, _, rfl⟩ ?_ ?_)
  · simp [webL]
    exact rng1_ok n (by omega) (by omega)
  · rintro i d ρ hd ⟨s5, s6, s7, rfl⟩
    obtain ⟨hi, rfl⟩ := rngD_at hd
    have hz0 : (0 : Int) ≤ (i : Int) := by omega
    have hz1 : (i : Int) < n := by omega
    have e1 := ixS_bes (n := n) ps hz0 hz1
    have etk : (rngZ 0 n).take (i + 1) = (rngZ 0 n).take i ++ [(i : Int)] := by
      rw [List.take_add_one]
      have : (rngZ 0 n)[i]? = some (i : Int) := by
        unfold rngZ
        rw [List.getElem?_map, List.getElem?_range (by omega)]
        simp
      rw [this]
      rfl
    have hacc : (((rngZ 0 n).take i).filter pr).length ≤ 100 := by
      have h1 := List.length_filter_le pr ((rngZ 0 n).take i)
      rw [List.length_take, rngZ_len] at h1
      omega
    rw [etk, List.filter_append]
    simp only [Int.zero_add]
    generalize ((rngZ 0 n).take i).filter pr = acc at hacc ⊢
    refine ⟨_, rfl, ?_⟩
    have ec : dAny (dLst (lComp (iSeq (bOf (dIx (bVar 3) (dVar 5)))) (gN 7) tYes (dT (tIn (dVar 7) (bVar 2))) [7])) [.fz (webP n ps), .fz (tupI ms), .fz (tupI st), .fz (besD (nbr ps) n.toNat), .ow (acc.map .int), .fz (.int i), s6, s7] = .ok (.bool ((nbr ps i).any fun o => decide (o ∈ st))) := by
      have : lComp (iSeq (bOf (dIx (bVar 3) (dVar 5)))) (gN 7) tYes (dT (tIn (dVar 7) (bVar 2))) [7] [.fz (webP n ps), .fz (tupI ms), .fz (tupI st), .fz (besD (nbr ps) n.toNat), .ow (acc.map .int), .fz (.int i), s6, s7] = .ok ((nbr ps i).map fun o => .bool (decide (o ∈ st))) := by
        refine lcomp_a (f := PyData.int) (xs := nbr ps i) (by simp [e1]) rfl (Nat.le_trans (hnl i) (by decide)) fun o _ => ⟨_, rfl, ?_⟩
        simp [wipeE]
      rw [dAny_e, dLst_e, this]
      simp only [Rs.bind_ok]
      exact anyD_map _ _
    have ecT : (tTru (bOf (dAny (dLst (lComp (iSeq (bOf (dIx (bVar 3) (dVar 5)))) (gN 7) tYes (dT (tIn (dVar 7) (bVar 2))) [7]))))) [.fz (webP n ps), .fz (tupI ms), .fz (tupI st), .fz (besD (nbr ps) n.toNat), .ow (acc.map .int), .fz (.int i), s6, s7] = .ok ((nbr ps i).any fun o => decide (o ∈ st)) := by
      rw [tTru_e, bOf_e, ec]
      rfl
    refine wp_if (b := pr i) ?_ (fun q => ?_) (fun q => ?_)
    · show (tAnd (tNin (dVar 5) (bVar 2)) (tNot _)) [.fz (webP n ps), .fz (tupI ms), .fz (tupI st), .fz (besD (nbr ps) n.toNat), .ow (acc.map .int), .fz (.int i), s6, s7] = _
      rw [tAnd_e, tNot_e, ecT, ← hpr]
      by_cases q : (i : Int) ∈ st <;> simp [q]
    · refine wp_app (ds := acc.map .int) (d := .int i) rfl rfl (by rw [List.length_map]; omega) ⟨.fz (.int i), s6, s7, ?_⟩
      rw [List.filter_cons_of_pos q, List.map_append]
      rfl
    · refine wp_nx ⟨.fz (.int i), s6, s7, ?_⟩
      rw [List.filter_cons_of_neg (by rw [q]; exact Bool.false_ne_true), List.filter_nil, List.append_nil]
      rfl
  · rintro ρ ⟨s5, s6, s7, rfl⟩
    have hT : (rngZ 0 n).take (rngD 0 n.toNat).length = rngZ 0 n := by
      rw [rngM_len]
      refine List.take_of_length_le ?_
      rw [rngZ_len]
      omega
    rw [hT]
    generalize (rngZ 0 n).filter pr = fr at *
    refine wp_seq (wp_frz rfl ?_)
    refine wp_ret (d := .list (cs.map (fpD ms))) ?_ rfl
    have hcsl : cs.length ≤ 1000 := by
      have hnd2 : (cs.map fun c => c.headD 0).Nodup := by
        unfold List.Nodup
        rw [List.pairwise_map]
        refine List.Pairwise.imp_of_mem ?_ hP.hds
        rintro a b ha hb ⟨s, t, h1, h2, h3⟩ e
        have hh : ∀ c s, c ∈ cs → Hd c s → c.headD 0 = s := fun c s hc hs => by
          cases c with
          | nil => cases hs.1
          | cons x r =>
            have hu := List.pairwise_cons.mp (hP.each _ hc).up
            have h1 := hs.2 x List.mem_cons_self
            show x = s
            rcases List.mem_cons.mp hs.1 with q | q
            · exact q.symm
            · have := hu.1 s q
              omega
        rw [hh a s ha h1, hh b t hb h2] at e
        omega
      have := List.Nodup.length_le_of_subset hnd2 (l₂ := fr) fun x hx => by
        obtain ⟨c, hc, rfl⟩ := List.mem_map.mp hx
        obtain ⟨r, r1, _⟩ := (hP.each c hc).root
        cases c with
        | nil => cases r1
        | cons y r => exact (hP.each _ hc).sub y List.mem_cons_self
      rw [List.length_map] at this
      omega
    have ec : lComp (iSeq (bOf (dCall d_parts (saCons (bVar 3) (saCons (bVar 4) saNil))))) (gN 6) tYes (dTup (lCons (dVar 6) (lCons (dLen (bOf (dLst (lComp (iSeq (bVar 6)) (gN 5) (tIn (dVar 5) (bVar 1)) (dVar 5) [5])))) lNil))) [6] [.fz (webP n ps), .fz (tupI ms), .fz (tupI st), .fz (besD (nbr ps) n.toNat), .fz (lstI fr), s5, s6, s7] = .ok (cs.map (fpD ms)) := by
      refine lcomp_a (f := lstI) (xs := cs) (by simp [hcs]) rfl (by omega) fun c hc => ⟨_, rfl, ?_⟩
      have hcl : c.length ≤ 1000 := by
        have := List.Nodup.length_le_of_subset (Up.nodup (hP.each c hc).up) (l₂ := fr) fun x hx => (hP.each c hc).sub x hx
        omega
      have ec2 : lComp (iSeq (bVar 6)) (gN 5) (tIn (dVar 5) (bVar 1)) (dVar 5) [5] [.fz (webP n ps), .fz (tupI ms), .fz (tupI st), .fz (besD (nbr ps) n.toNat), .fz (lstI fr), s5, .fz (lstI c), s7] = .ok ((c.filter fun z => decide (z ∈ ms)).map PyData.int) := by
        refine lcomp_t (f := PyData.int) (xs := c) rfl rfl (by omega) fun z _ => ⟨_, rfl, by simp [wipeE], fun _ => by simp [wipeE]⟩
      show (dTup (lCons (dVar 6) (lCons (dLen (bOf (dLst _))) lNil))) [.fz (webP n ps), .fz (tupI ms), .fz (tupI st), .fz (besD (nbr ps) n.toNat), .fz (lstI fr), s5, .fz (lstI c), s7] = _
      rw [dTup_e, lCons_e, lCons_e, dLen_e, bOf_e, dLst_e, ec2]
      simp only [lNil_e, dVar_e, List.getElem?_cons_succ, List.getElem?_cons_zero, Rs.bind_ok, lenS_l, List.length_map]
      rfl
    rw [dLst_e]
    show (lComp _ _ _ _ _ [.fz (webP n ps), .fz (tupI ms), .fz (tupI st), .fz (besD (nbr ps) n.toNat), .fz (lstI fr), s5, s6, s7]).bind _ = _
    rw [ec]
    rfl
end
end MS

/-! MsF6: the law's parts. -/
namespace MS
open PySem

def stepQ (L K : List Int) (p : Int × Int) : List Int := if ((decide (p.1 ∈ L) && decide (p.2 ∈ L)) && !(decide (p.1 ∈ K) == decide (p.2 ∈ K))) = true then K ++ [if p.1 ∈ K then p.2 else p.1] else K
def turnQ (L : List Int) (ps : List (Int × Int)) (K : List Int) : List Int := ps.foldl (stepQ L) K
def turnsQ (L : List Int) (ps : List (Int × Int)) : Nat → List Int → List Int
  | 0, K => K
  | t + 1, K => turnQ L ps (turnsQ L ps t K)
def ShutQ (L : List Int) (ps : List (Int × Int)) (K : List Int) : Prop := ∀ p ∈ ps, p.1 ∈ L → p.2 ∈ L → (p.1 ∈ K ↔ p.2 ∈ K)
theorem stepQ_or (L K : List Int) (p : Int × Int) : (stepQ L K p = K ∧ (p.1 ∈ L → p.2 ∈ L → (p.1 ∈ K ↔ p.2 ∈ K))) ∨ (p.1 ∈ L ∧ p.2 ∈ L ∧ ((p.1 ∈ K ∧ p.2 ∉ K ∧ stepQ L K p = K ++ [p.2]) ∨ (p.1 ∉ K ∧ p.2 ∈ K ∧ stepQ L K p = K ++ [p.1]))) := by
  unfold stepQ
  by_cases h1 : p.1 ∈ L
  · by_cases h2 : p.2 ∈ L
    · by_cases h3 : p.1 ∈ K
      · by_cases h4 : p.2 ∈ K
        · left; simp [h3, h4]
        · right; simp [h1, h2, h3, h4]
      · by_cases h4 : p.2 ∈ K
        · right; simp [h1, h2, h3, h4]
        · left; simp [h3, h4]
    · left; simp [h2]
  · left; simp [h1]
theorem stepQ_sub {L K : List Int} {p : Int × Int} {x : Int} (h : x ∈ K) : x ∈ stepQ L K p := by
  rcases stepQ_or L K p with ⟨e, _⟩ | ⟨_, _, ⟨_, _, e⟩ | ⟨_, _, e⟩⟩ <;> rw [e]
  · exact h
  · exact List.mem_append_left _ h
  · exact List.mem_append_left _ h
theorem stepQ_len (L K : List Int) (p : Int × Int) : K.length ≤ (stepQ L K p).length := by
  rcases stepQ_or L K p with ⟨e, _⟩ | ⟨_, _, ⟨_, _, e⟩ | ⟨_, _, e⟩⟩ <;> rw [e] <;> simp
theorem turnQ_len {L : List Int} : ∀ (ps : List (Int × Int)) (K : List Int), K.length ≤ (turnQ L ps K).length
  | [], _ => Nat.le_refl _
  | p :: ps, K => Nat.le_trans (stepQ_len L K p) (turnQ_len ps (stepQ L K p))
theorem turnQ_or {L : List Int} : ∀ (ps : List (Int × Int)) (K : List Int), (turnQ L ps K = K ∧ ShutQ L ps K) ∨ K.length + 1 ≤ (turnQ L ps K).length
  | [], K => .inl ⟨rfl, fun p hp => by cases hp⟩
  | p :: ps, K => by
    rcases stepQ_or L K p with ⟨e, h⟩ | ⟨_, _, h⟩
    · show (turnQ L ps (stepQ L K p) = K ∧ _) ∨ _ ≤ (turnQ L ps (stepQ L K p)).length
      rw [e]
      rcases turnQ_or ps K with ⟨h1, h2⟩ | h1
      · refine .inl ⟨h1, fun q hq => ?_⟩
        rcases List.mem_cons.mp hq with rfl | hq
        · exact h
        · exact h2 q hq
      · exact .inr h1
    · refine .inr ?_
      have h1 := turnQ_len (L := L) ps (stepQ L K p)
      have h2 : (stepQ L K p).length = K.length + 1 := by
        rcases h with ⟨_, _, e⟩ | ⟨_, _, e⟩ <;> rw [e] <;> simp
      show _ ≤ (turnQ L ps (stepQ L K p)).length
      omega
theorem turnQ_shut {L : List Int} : ∀ {ps : List (Int × Int)} {K : List Int}, ShutQ L ps K → turnQ L ps K = K
  | [], _, _ => rfl
  | p :: ps, K, h => by
    have e : stepQ L K p = K := by
      rcases stepQ_or L K p with ⟨e, _⟩ | ⟨h1, h2, ⟨h3, h4, _⟩ | ⟨h3, h4, _⟩⟩
      · exact e
      · exact absurd ((h p List.mem_cons_self h1 h2).mp h3) h4
      · exact absurd ((h p List.mem_cons_self h1 h2).mpr h4) h3
    show turnQ L ps (stepQ L K p) = K
    rw [e]
    exact turnQ_shut fun q hq => h q (List.mem_cons_of_mem _ hq)
theorem turnsQ_or (L : List Int) (ps : List (Int × Int)) (K : List Int) : ∀ t, ShutQ L ps (turnsQ L ps t K) ∨ K.length + t ≤ (turnsQ L ps t K).length
  | 0 => .inr (Nat.le_refl _)
  | t + 1 => by
    show ShutQ L ps (turnQ L ps (turnsQ L ps t K)) ∨ _ ≤ (turnQ L ps (turnsQ L ps t K)).length
    rcases turnQ_or ps (turnsQ L ps t K) with ⟨h1, h2⟩ | h
    · rw [h1]; exact .inl h2
    · rcases turnsQ_or L ps K t with k | k
      · rw [turnQ_shut k]; exact .inl k
      · exact .inr (by omega)
/-- a growing part -/
structure GoodK (nb : Int → List Int) (S L : List Int) (x : Int) (K : List Int) : Prop where
  nd : K.Nodup
  sub : ∀ z ∈ K, z ∈ L
  rch : ∀ z ∈ K, Rch nb S x z
  root : x ∈ K
theorem goodK_step {ps : List (Int × Int)} {S L : List Int} {x : Int} (hLS : ∀ z ∈ L, z ∈ S) {K : List Int} (h : GoodK (nbr ps) S L x K) {p : Int × Int} (hp : p ∈ ps) : GoodK (nbr ps) S L x (stepQ L K p) := by
  have add : ∀ y z, y ∈ K → z ∉ K → z ∈ L → Adj ps y z → GoodK (nbr ps) S L x (K ++ [z]) := fun y z hy hz hzL hA => by
    refine ⟨?_, fun u hu => ?_, fun u hu => ?_, List.mem_append_left _ h.root⟩
    · rw [List.nodup_append]
      refine ⟨h.nd, by simp, fun a ha b hb e => ?_⟩
      have : b = z := by simpa using hb
      subst this
      subst e
      exact hz ha
    · rcases List.mem_append.mp hu with q | q
      · exact h.sub u q
      · have : u = z := by simpa using q
        subst this
        exact hzL
    · rcases List.mem_append.mp hu with q | q
      · exact h.rch u q
      · have : u = z := by simpa using q
        subst this
        exact .step (h.rch y hy) (nbr_mem.mpr hA) (hLS _ hzL)
  rcases stepQ_or L K p with ⟨e, _⟩ | ⟨h1, h2, ⟨h3, h4, e⟩ | ⟨h3, h4, e⟩⟩ <;> rw [e]
  · exact h
  · exact add p.1 p.2 h3 h4 h2 (.inl hp)
  · exact add p.2 p.1 h4 h3 h1 (.inr hp)
theorem goodK_turn {ps : List (Int × Int)} {S L : List Int} {x : Int} (hLS : ∀ z ∈ L, z ∈ S) : ∀ (qs : List (Int × Int)), (∀ q ∈ qs, q ∈ ps) → ∀ {K : List Int}, GoodK (nbr ps) S L x K → GoodK (nbr ps) S L x (turnQ L qs K)
  | [], _, _, h => h
  | q :: qs, hq, K, h => goodK_turn hLS qs (fun p hp => hq p (List.mem_cons_of_mem _ hp)) (goodK_step hLS h (hq q List.mem_cons_self))
theorem goodK_turns {ps : List (Int × Int)} {S L : List Int} {x : Int} (hLS : ∀ z ∈ L, z ∈ S) {K : List Int} (h : GoodK (nbr ps) S L x K) : ∀ t, GoodK (nbr ps) S L x (turnsQ L ps t K)
  | 0 => h
  | t + 1 => goodK_turn hLS ps (fun _ h => h) (goodK_turns hLS h t)
theorem touched_any {ps : List (Int × Int)} {st : List Int} {z : Int} : ((ps.filter fun p => decide (z ∈ [p.1, p.2])).any fun p => decide (p.1 + p.2 - z ∈ st)) = (nbr ps z).any fun o => decide (o ∈ st) := by
  rw [Bool.eq_iff_iff, List.any_eq_true, List.any_eq_true]
  constructor
  · rintro ⟨p, hp, hq⟩
    obtain ⟨h1, h2⟩ := List.mem_filter.mp hp
    have h2 : z = p.1 ∨ z = p.2 := by simpa using h2
    refine ⟨p.1 + p.2 - z, nbr_mem.mpr ?_, hq⟩
    rcases h2 with rfl | rfl
    · have : p.1 + p.2 - p.1 = p.2 := by omega
      rw [this]
      exact .inl h1
    · have : p.1 + p.2 - p.2 = p.1 := by omega
      rw [this]
      exact .inr h1
  · rintro ⟨o, ho, hq⟩
    rcases nbr_mem.mp ho with q | q
    · refine ⟨_, List.mem_filter.mpr ⟨q, by simp⟩, ?_⟩
      have : z + o - z = o := by omega
      simp only [this]
      exact hq
    · refine ⟨_, List.mem_filter.mpr ⟨q, by simp⟩, ?_⟩
      have : o + z - z = o := by omega
      simp only [this]
      exact hq
theorem law_parts_den {n m : Int} {ps : List (Int × Int)} (h : GoodWeb n m ps) (hm : m ≤ 10) {ms st : List Int} (hst : st.length ≤ 1000) (hml : ms.length ≤ 1000) : ∃ cs, d__law_parts [.fz (webP n ps), .fz (tupI st), .fz (tupI ms)] = .ok (.list (cs.map (fpD ms))) ∧ PartsOf (nbr ps) (frM n ps st) cs := by
  have hn2 := h.2.1
  have hn1 := h.1
  have hpl := h.2.2.2.2
  refine run_ex (as := [.fz (webP n ps), .fz (tupI st), .fz (tupI ms)]) (n := 12) (Q := fun r => ∃ cs, r = .ok (.list (cs.map (fpD ms))) ∧ PartsOf (nbr ps) (frM n ps st) cs) [.fz (webP n ps), .fz (tupI st), .fz (tupI ms), .nil, .nil, .nil, .nil, .nil, .nil, .nil, .nil, .nil] ?_
  refine wp_seq (wp_own (ds := []) rfl ?_)
  have hfr : (frM n ps st).length ≤ 10 := by
    have h1 : (frM n ps st).length ≤ (rngZ 0 n).length := List.length_filter_le _ _
    rw [rngZ_len] at h1
    omega
  have hfu := frM_up n ps st
  have hfi := fun z (hz : z ∈ frM n ps st) => frM_in hz
  generalize hS : frM n ps st = S at hfr hfu hfi ⊢
  generalize hpr : (fun z => !decide (z ∈ st) && !((nbr ps z).any fun o => decide (o ∈ st))) = pr
  have hSp : (rngZ 0 n).filter pr = S := by rw [← hS, ← hpr]; rfl
  refine wp_seq (wp_for (ds := rngD 0 n.toNat) ?_ (fun i ρ => ∃ s4 s6 s9 s10, ρ = [.fz (webP n ps), .fz (tupI st), .fz (tupI ms), .ow ((((rngZ 0 n).take i).filter pr).map .int), s4, .nil, s6, .nil, .nil, s9, s10, .nil]) ⟨_, _, _, _, rfl⟩ ?_ ?_)
  · simp [webL]
    exact rng1_ok n (by omega) (by omega)
  · rintro i d ρ hd ⟨s4, s6, s9, s10, rfl⟩
    obtain ⟨hi, rfl⟩ := rngD_at hd
    have etk : (rngZ 0 n).take (i + 1) = (rngZ 0 n).take i ++ [(i : Int)] := by
      rw [List.take_add_one]
      have : (rngZ 0 n)[i]? = some (i : Int) := by
        unfold rngZ
        rw [List.getElem?_map, List.getElem?_range (by omega)]
        simp
      rw [this]
      rfl
    have hacc : (((rngZ 0 n).take i).filter pr).length ≤ 100 := by
      have h1 := List.length_filter_le pr ((rngZ 0 n).take i)
      rw [List.length_take, rngZ_len] at h1
      omega
    rw [etk, List.filter_append]
    simp only [Int.zero_add]
    generalize ((rngZ 0 n).take i).filter pr = acc at hacc ⊢
    refine ⟨_, rfl, ?_⟩
    have ec0 : lComp (iSeq (bOf (dIx (bVar 0) (dC (.int 1))))) (gT [9, 10]) (tIn (dVar 4) (bOf (dTup (lCons (dVar 9) (lCons (dVar 10) lNil))))) (dBin opSub (dBin opAdd (dVar 9) (dVar 10)) (dVar 4)) [9, 10] [.fz (webP n ps), .fz (tupI st), .fz (tupI ms), .ow (acc.map .int), .fz (.int i), .nil, s6, .nil, .nil, s9, s10, .nil] = .ok (((ps.filter fun p => decide ((i : Int) ∈ [p.1, p.2])).map fun p => p.1 + p.2 - (i : Int)).map PyData.int) := by
      rw [List.map_map]
      refine lcomp_t (f := prD) (xs := ps) (by simp [webP_eq]) rfl (by omega) fun p _ => ⟨_, rfl, ?_, fun _ => by simp [setAll, wipeE]⟩
      have := cIn_tup (i : Int) [p.1, p.2]
      simp only [List.map_cons, List.map_nil] at this
      simp [setAll, wipeE, this]
    generalize hto : ((ps.filter fun p => decide ((i : Int) ∈ [p.1, p.2])).map fun p => p.1 + p.2 - (i : Int)) = to at ec0
    have htl : to.length ≤ 60 := by
      rw [← hto, List.length_map]
      have := List.length_filter_le (fun p : Int × Int => decide ((i : Int) ∈ [p.1, p.2])) ps
      omega
    have hta : (to.any fun o => decide (o ∈ st)) = (nbr ps i).any fun o => decide (o ∈ st) := by
      rw [← touched_any, ← hto, List.any_map]
      rfl
    refine wp_seq (wp_set (d := lstI to) ?_ ?_)
    · rw [dLst_e]
      show (lComp _ _ _ _ _ [.fz (webP n ps), .fz (tupI st), .fz (tupI ms), .ow (acc.map .int), .fz (.int i), .nil, s6, .nil, .nil, s9, s10, .nil]).bind _ = _
      rw [ec0]
      rfl
    have ec : dAny (dLst (lComp (iSeq (bVar 6)) (gN 9) tYes (dT (tIn (dVar 9) (bVar 1))) [9])) [.fz (webP n ps), .fz (tupI st), .fz (tupI ms), .ow (acc.map .int), .fz (.int i), .nil, .fz (lstI to), .nil, .nil, s9, s10, .nil] = .ok (.bool ((nbr ps i).any fun o => decide (o ∈ st))) := by
      have : lComp (iSeq (bVar 6)) (gN 9) tYes (dT (tIn (dVar 9) (bVar 1))) [9] [.fz (webP n ps), .fz (tupI st), .fz (tupI ms), .ow (acc.map .int), .fz (.int i), .nil, .fz (lstI to), .nil, .nil, s9, s10, .nil] = .ok (to.map fun o => .bool (decide (o ∈ st))) := by
        refine lcomp_a (f := PyData.int) (xs := to) rfl rfl (by omega) fun o _ => ⟨_, rfl, ?_⟩
        simp [wipeE]
      rw [dAny_e, dLst_e, this]
      simp only [Rs.bind_ok]
      rw [← hta]
      exact anyD_map _ _
    have ecT : (tTru (bOf (dAny (dLst (lComp (iSeq (bVar 6)) (gN 9) tYes (dT (tIn (dVar 9) (bVar 1))) [9]))))) [.fz (webP n ps), .fz (tupI st), .fz (tupI ms), .ow (acc.map .int), .fz (.int i), .nil, .fz (lstI to), .nil, .nil, s9, s10, .nil] = .ok ((nbr ps i).any fun o => decide (o ∈ st)) := by
      rw [tTru_e, bOf_e, ec]
      rfl
    refine wp_if (b := pr i) ?_ (fun q => ?_) (fun q => ?_)
    · show (tAnd (tNin (dVar 4) (bVar 1)) (tNot _)) [.fz (webP n ps), .fz (tupI st), .fz (tupI ms), .ow (acc.map .int), .fz (.int i), .nil, .fz (lstI to), .nil, .nil, s9, s10, .nil] = _
      rw [tAnd_e, tNot_e, ecT, ← hpr]
      by_cases q : (i : Int) ∈ st <;> simp [q]
    · refine wp_app (ds := acc.map .int) (d := .int i) rfl rfl (by rw [List.length_map]; omega) ⟨.fz (.int i), .fz (lstI to), s9, s10, ?_⟩
      rw [List.filter_cons_of_pos q, List.map_append]
      rfl
    · refine wp_nx ⟨.fz (.int i), .fz (lstI to), s9, s10, ?_⟩
      rw [List.filter_cons_of_neg (by rw [q]; exact Bool.false_ne_true), List.filter_nil, List.append_nil]
      rfl
  rintro ρ ⟨s4, s6, s9, s10, rfl⟩
  have hT : (rngZ 0 n).take (rngD 0 n.toNat).length = rngZ 0 n := by
    rw [rngM_len]
    refine List.take_of_length_le ?_
    rw [rngZ_len]
    omega
  rw [hT, hSp]
  refine wp_seq (wp_own (ds := []) rfl ?_)
  refine wp_seq (wp_while (fun z ρ => ∃ (L : List Int) (cs : List (List Int)) (s4 s6 s7 s8 s9 s10 s11 : Sl), ρ = [.fz (webP n ps), .fz (tupI st), .fz (tupI ms), .ow (L.map .int), s4, .ow (cs.map (fpD ms)), s6, s7, s8, s9, s10, s11] ∧ Up L ∧ (∀ x ∈ L, x ∈ S) ∧ (∀ x ∈ S, x ∈ L ∨ ∃ c ∈ cs, x ∈ c) ∧ (∀ x ∈ L, ∀ y ∈ nbr ps x, y ∈ S → y ∈ L) ∧ (∀ c ∈ cs, IsPart (nbr ps) S c) ∧ cs.Pairwise HdLt ∧ (∀ c ∈ cs, ∃ s, Hd c s ∧ ∀ x ∈ L, s < x) ∧ z = L.length ∧ cs.length + L.length ≤ 10) (m := S.length) (Nat.lt_of_le_of_lt hfr (by decide)) ⟨S, [], _, _, _, _, _, _, _, rfl, hfu, fun x hx => hx, fun x hx => .inl hx, fun _ _ y _ hy => hy, fun c hc => (by cases hc), List.Pairwise.nil, fun c hc => (by cases hc), rfl, by simpa using hfr⟩ ?_)
  rintro z ρ ⟨L, cs, s4, s6, s7, s8, s9, s10, s11, rfl, k1, k2, k3, k4, k5, k6, k7, rfl, k8⟩
  cases L with
  | nil =>
    left
    refine ⟨rfl, ?_⟩
    refine wp_seq (wp_frz rfl ?_)
    exact wp_ret rfl ⟨cs, rfl, k5, fun x hx => (k3 x hx).resolve_left (by simp), k6⟩
  | cons x L' =>
    right
    refine ⟨rfl, ?_⟩
    have hxS := k2 x List.mem_cons_self
    have hxmin : ∀ y ∈ x :: L', x ≤ y := fun y hy => by
      rcases List.mem_cons.mp hy with rfl | hy
      · exact Int.le_refl _
      · have := (List.pairwise_cons.mp k1).1 y hy
        omega
    have hLlen : (x :: L').length ≤ 10 := by omega
    have hlen' : L'.length < (x :: L').length := by simp
    have hflt : ∀ K : List Int, x ∈ K → ((x :: L').filter fun y => !decide (y ∈ K)).length ≤ L'.length := fun K hK => by
      rw [List.filter_cons_of_neg (by simp [hK])]
      exact List.length_filter_le _ _
    have hcut : cutD ((x :: L').map PyData.int) none (some 1) = [PyData.int x] := by
      have := cut_to ((x :: L').map PyData.int) 1 (by simp)
      rw [show ((1 : Nat) : Int) = 1 from rfl] at this
      rw [this]
      rfl
    generalize hL : x :: L' = L at *
    have hxL : x ∈ L := by rw [← hL]; exact List.mem_cons_self
    refine wp_seq (wp_frz rfl ?_)
    refine wp_seq (wp_set (d := lstI [x]) ?_ ?_)
    · simp [slD, hcut]
    have g0 : GoodK (nbr ps) S L x [x] := ⟨by simp, fun z hz => by
      have : z = x := by simpa using hz
      subst this; exact hxL, fun z hz => by
      have : z = x := by simpa using hz
      subst this; exact .refl _, by simp⟩
    have klen : ∀ {K : List Int}, GoodK (nbr ps) S L x K → K.length ≤ 10 := fun {K} g => by
      have := List.Nodup.length_le_of_subset g.nd (l₂ := L) fun z hz => g.sub z hz
      omega
    refine wp_seq (wp_for (ds := rngD 0 n.toNat) ?_ (fun i ρ => ∃ s8 s9 s10 s11, ρ = [.fz (webP n ps), .fz (tupI st), .fz (tupI ms), .fz (lstI L), s4, .ow (cs.map (fpD ms)), s6, .fz (lstI (turnsQ L ps i [x])), s8, s9, s10, s11]) ⟨_, _, _, _, rfl⟩ ?_ ?_)
    · simp [webL]
      exact rng1_ok n (by omega) (by omega)
    · rintro i d ρ hd ⟨s8, s9, s10, s11, rfl⟩
      have gi := goodK_turns k2 g0 i
      refine ⟨_, rfl, ?_⟩
      show W (sFor _ _ _ _) (fun ρ2 => ∃ s8 s9 s10 s11, ρ2 = [.fz (webP n ps), .fz (tupI st), .fz (tupI ms), .fz (lstI L), s4, .ow (cs.map (fpD ms)), s6, .fz (lstI (turnQ L ps (turnsQ L ps i [x]))), s8, s9, s10, s11]) _
      generalize turnsQ L ps i [x] = K0 at gi ⊢
      refine wp_for (ds := ps.map prD) (by simp [webP_eq]) (fun j ρ => ∃ s8 s9 s10 s11, ρ = [.fz (webP n ps), .fz (tupI st), .fz (tupI ms), .fz (lstI L), s4, .ow (cs.map (fpD ms)), s6, .fz (lstI (turnQ L (ps.take j) K0)), s8, s9, s10, s11]) ⟨_, _, _, _, rfl⟩ ?_ ?_
      · rintro j d ρ hd ⟨t8, t9, t10, t11, rfl⟩
        rw [List.getElem?_map] at hd
        cases ea : ps[j]? with
        | none => rw [ea] at hd; cases hd
        | some p =>
          rw [ea] at hd
          cases hd
          have hp := List.mem_of_getElem? ea
          have etk : turnQ L (ps.take (j + 1)) K0 = stepQ L (turnQ L (ps.take j) K0) p := by
            unfold turnQ
            rw [List.take_add_one, ea, List.foldl_append]
            rfl
          have gj := goodK_turn k2 (ps.take j) (fun q hq => List.mem_of_mem_take hq) gi
          rw [etk]
          generalize turnQ L (ps.take j) K0 = K at gj ⊢
          have hKl := klen gj
          refine ⟨_, rfl, ?_⟩
          refine wp_seq (wp_set (d := .bool (decide (p.1 ∈ L) && decide (p.2 ∈ L))) ?_ ?_)
          · by_cases q : p.1 ∈ L <;> simp [setAll, prD, q]
          refine wp_if (b := (decide (p.1 ∈ L) && decide (p.2 ∈ L)) && !(decide (p.1 ∈ K) == decide (p.2 ∈ K))) ?_ (fun q => ?_) (fun q => ?_)
          · by_cases q : (decide (p.1 ∈ L) && decide (p.2 ∈ L)) = true
            · simp [setAll, prD, q, cNe_bool]
            · rw [Bool.not_eq_true] at q
              simp [setAll, prD, q]
          · have es : stepQ L K p = K ++ [if p.1 ∈ K then p.2 else p.1] := if_pos q
            rw [es]
            refine wp_set (d := lstI (K ++ [if p.1 ∈ K then p.2 else p.1])) ?_ ⟨_, _, _, _, rfl⟩
            have o : ∀ y : Int, opAdd (lstI K) (.list [.int y]) = .ok (lstI (K ++ [y])) := fun y => by
              unfold lstI
              rw [opAdd_lst _ _ (by rw [List.length_map, List.length_singleton]; omega), List.map_append]
              rfl
            by_cases q2 : p.1 ∈ K <;> simp [setAll, prD, q2, o]
          · have es : stepQ L K p = K := if_neg (by rw [q]; exact Bool.false_ne_true)
            rw [es]
            exact wp_nx ⟨_, _, _, _, rfl⟩
      · rintro ρ ⟨t8, t9, t10, t11, rfl⟩
        rw [List.length_map, List.take_length]
        exact ⟨_, _, _, _, rfl⟩
    rintro ρ ⟨s8, s9, s10, s11, rfl⟩
    rw [rngM_len]
    have gn := goodK_turns k2 g0 n.toNat
    have hshut : ShutQ L ps (turnsQ L ps n.toNat [x]) := by
      rcases turnsQ_or L ps [x] n.toNat with q | q
      · exact q
      · exfalso
        have h1 : (turnsQ L ps n.toNat [x]).length ≤ (rngZ 0 n).length := List.Nodup.length_le_of_subset gn.nd fun z hz => rngZ_mem.mpr (hfi z (k2 z (gn.sub z hz)))
        rw [rngZ_len] at h1
        simp only [List.length_singleton] at q
        omega
    generalize turnsQ L ps n.toNat [x] = K at gn hshut ⊢
    have hKl := klen gn
    have hKsh : ∀ y ∈ K, ∀ z ∈ nbr ps y, z ∈ S → z ∈ K := fun y hy z hz hzS => by
      have hyL := gn.sub y hy
      have hzL := k4 y hyL z hz hzS
      rcases nbr_mem.mp hz with q | q
      · exact (hshut _ q hyL hzL).mp hy
      · exact (hshut _ q hzL hyL).mpr hy
    have hm' : ∀ y, y ∈ sortZ K ↔ y ∈ K := fun y => (sortZ_perm K).mem_iff
    have so : sortS (.fz (lstI K)) = .ok ((sortZ K).map .int) := sortD_ints (by omega)
    have hcnt : cntM ms (sortZ K) = (K.filter fun z => decide (z ∈ ms)).length := by
      unfold cntM
      exact ((sortZ_perm K).filter _).length_eq
    refine wp_seq (wp_app (ds := cs.map (fpD ms)) (d := fpD ms (sortZ K)) rfl ?_ (by rw [List.length_map]; omega) ?_)
    · have ec2 : lComp (iSeq (bVar 7)) (gN 4) (tIn (dVar 4) (bVar 2)) (dVar 4) [4] [.fz (webP n ps), .fz (tupI st), .fz (tupI ms), .fz (lstI L), s4, .ow (cs.map (fpD ms)), s6, .fz (lstI K), s8, s9, s10, s11] = .ok ((K.filter fun z => decide (z ∈ ms)).map PyData.int) := by
        refine lcomp_t (f := PyData.int) (xs := K) rfl rfl (by omega) fun z _ => ⟨_, rfl, by simp [wipeE], fun _ => by simp [wipeE]⟩
      rw [dTup_e, lCons_e, lCons_e, dLst_e, lSorted_e, bVar_e, dLen_e, bOf_e, dLst_e, ec2]
      simp only [lNil_e, List.getElem?_cons_succ, List.getElem?_cons_zero, Rs.bind_ok, so, lenS_l, List.length_map]
      unfold fpD
      rw [hcnt]
    have hxK := gn.root
    have ec3 : lComp (iSeq (bVar 3)) (gN 4) (tNin (dVar 4) (bVar 7)) (dVar 4) [4] [.fz (webP n ps), .fz (tupI st), .fz (tupI ms), .fz (lstI L), s4, .ow (cs.map (fpD ms) ++ [fpD ms (sortZ K)]), s6, .fz (lstI K), s8, s9, s10, s11] = .ok ((L.filter fun z => !decide (z ∈ K)).map PyData.int) := by
      refine lcomp_t (f := PyData.int) (xs := L) rfl rfl (by omega) fun z _ => ⟨_, rfl, by simp [wipeE], fun _ => by simp [wipeE]⟩
    have hL2 : ∀ z, z ∈ L.filter (fun z => !decide (z ∈ K)) ↔ z ∈ L ∧ z ∉ K := fun z => by
      rw [List.mem_filter, Bool.not_eq_true', decide_eq_false_iff_not]
    have hl2 := hflt K hxK
    refine wp_own (ds := (L.filter fun z => !decide (z ∈ K)).map .int) ec3 ⟨(L.filter fun z => !decide (z ∈ K)).length, by omega, L.filter fun z => !decide (z ∈ K), cs ++ [sortZ K], s4, s6, _, s8, s9, s10, s11, by rw [List.map_append (l₂ := [sortZ K])]; rfl, k1.filter _, fun z hz => k2 z ((hL2 z).mp hz).1, fun z hz => ?_, fun y hy z hz hzS => ?_, fun c hc => ?_, ?_, fun c hc => ?_, rfl, by rw [List.length_append, List.length_singleton]; omega⟩
    · rcases k3 z hz with q | ⟨c, hc, hzc⟩
      · by_cases r : z ∈ K
        · exact .inr ⟨sortZ K, by simp, (hm' z).mpr r⟩
        · exact .inl ((hL2 z).mpr ⟨q, r⟩)
      · exact .inr ⟨c, List.mem_append_left _ hc, hzc⟩
    · obtain ⟨hyL, hyK⟩ := (hL2 y).mp hy
      exact (hL2 z).mpr ⟨k4 y hyL z hz hzS, fun q => hyK (hKsh z q y (nbr_symm ps y z hz) (k2 y hyL))⟩
    · rcases List.mem_append.mp hc with q | q
      · exact k5 c q
      · have : c = sortZ K := by simpa using q
        subst this
        exact ⟨sortZ_up gn.nd, fun y hy => k2 y (gn.sub y ((hm' y).mp hy)), ⟨x, (hm' x).mpr hxK, fun y hy => gn.rch y ((hm' y).mp hy)⟩, fun y hy z hz hzS => (hm' z).mpr (hKsh y ((hm' y).mp hy) z hz hzS)⟩
    · refine List.pairwise_append.mpr ⟨k6, List.pairwise_singleton _ _, fun c hc c' hc2 => ?_⟩
      have : c' = sortZ K := by simpa using hc2
      subst this
      obtain ⟨s, h1, h2⟩ := k7 c hc
      exact ⟨s, x, h1, ⟨(hm' x).mpr hxK, fun y hy => hxmin y (gn.sub y ((hm' y).mp hy))⟩, h2 x hxL⟩
    · rcases List.mem_append.mp hc with q | q
      · obtain ⟨s, h1, h2⟩ := k7 c q
        exact ⟨s, h1, fun y hy => h2 y ((hL2 y).mp hy).1⟩
      · have : c = sortZ K := by simpa using q
        subst this
        refine ⟨x, ⟨(hm' x).mpr hxK, fun y hy => hxmin y (gn.sub y ((hm' y).mp hy))⟩, fun y hy => ?_⟩
        obtain ⟨y1, y2⟩ := (hL2 y).mp hy
        have h1 := hxmin y y1
        have h2 : x ≠ y := by rintro rfl; exact y2 hxK
        omega
end MS

/-! MsF7: the law's stiff ones, drawn trees, what is told of a tree, the law's questions. -/
namespace MS
open PySem

theorem sl_len2 {n m : Int} {ps : List (Int × Int)} (h : GoodWeb n m ps) {x : List Int} (hg : GoodMarks n ps x) : (slidesM n ps x).length ≤ ps.length * 2 := by
  rw [← law_slides_list h hg, (sortP_perm _).length_eq]
  exact flat_len fun p _ => Nat.le_trans (List.length_filter_le _ _) (by simp [endsL])
section
variable {n m : Int} {ps : List (Int × Int)} (h : GoodWeb n m ps) (hm : m ≤ 10) {ms : List Int} (hg : GoodMarks n ps ms) (hl : ms.length ≤ 4)
include h hm hg hl
theorem law_stiff_den (G : Gr (Adj ps) (rngZ 0 n)) (hpl : ps.length ≤ 11) : d__law_stiff [.fz (webP n ps), .fz (tupI ms)] = .ok (tupI (stM n ps ms)) := by
  obtain ⟨K0, hK0, hroom⟩ := law_room_den h (by omega) hg hl
  have hK := hK0.sorted
  generalize sortT K0 = K at hK hroom
  have hKl : K.length ≤ 20736 := rm_le h (by omega) hg hl hK.1 fun x hx => (hK.2 x).mp hx
  have hKg : ∀ x ∈ K, GoodMarks n ps x ∧ x.length = ms.length := fun x hx => ((hK.2 x).mp hx).good h hg
  have hVc := vn_adj h.2.2.1
  refine wp_run [.fz (webP n ps), .fz (tupI ms), .nil, .nil, .nil, .nil, .nil] ?_
  refine wp_seq (wp_set (d := .list []) rfl ?_)
  generalize hF : (fun x : List Int => (slidesM n ps x).map fun p => p.1) = F
  have hFl : ∀ x ∈ K, (F x).length ≤ 22 := fun x hx => by
    rw [← hF]
    have := sl_len2 h (hKg x hx).1
    show ((slidesM n ps x).map fun p => p.1).length ≤ 22
    rw [List.length_map]
    omega
  refine wp_seq (wp_for (ds := K.map tupI) (by simp [hroom]) (fun i ρ => ∃ s3 s4 s5 s6, ρ = [.fz (webP n ps), .fz (tupI ms), .fz (lstI ((K.take i).flatMap F)), s3, s4, s5, s6]) ⟨_, _, _, _, rfl⟩ ?_ ?_)
  · rintro i d ρ hd ⟨s3, s4, s5, s6, rfl⟩
    rw [List.getElem?_map] at hd
    cases ea : K[i]? with
    | none => rw [ea] at hd; cases hd
    | some x =>
      rw [ea] at hd
      cases hd
      have hx := List.mem_of_getElem? ea
      have hi : i < K.length := (List.getElem?_eq_some_iff.mp ea).1
      have hsl := law_slides_den h (by omega) (hKg x hx).1 (by have := (hKg x hx).2; omega)
      have hsl2 := sl_len2 h (hKg x hx).1
      have hacc : ((K.take i).flatMap F).length ≤ 20736 * 22 := by
        have h1 := flat_len (f := F) (c := 22) (l := K.take i) fun y hy => hFl y (List.mem_of_mem_take hy)
        have h2 : (K.take i).length ≤ 20736 := by rw [List.length_take]; omega
        omega
      have hFx := hFl x hx
      refine ⟨_, rfl, ?_⟩
      have ec : lComp (iSeq (bOf (dCall d__law_slides (saCons (bVar 0) (saCons (bVar 3) saNil))))) (gT [5, 6]) tYes (dVar 5) [5, 6] [.fz (webP n ps), .fz (tupI ms), .fz (lstI ((K.take i).flatMap F)), .fz (tupI x), s4, s5, s6] = .ok ((F x).map PyData.int) := by
        rw [← hF, List.map_map]
        refine lcomp_a (f := prD) (xs := slidesM n ps x) (by simp [hsl]) rfl (by omega) fun p _ => ⟨_, rfl, by simp [setAll, wipeE]⟩
      refine wp_set (d := lstI ((K.take (i + 1)).flatMap F)) ?_ ⟨_, _, _, _, rfl⟩
      rw [dBin_e, dLst_e]
      show ((dVar 2 [.fz (webP n ps), .fz (tupI ms), .fz (lstI ((K.take i).flatMap F)), .fz (tupI x), s4, s5, s6]).bind fun y => ((lComp _ _ _ _ _ [.fz (webP n ps), .fz (tupI ms), .fz (lstI ((K.take i).flatMap F)), .fz (tupI x), s4, s5, s6]).bind _).bind _) = _
      rw [ec, take_flat _ ea]
      simp only [dVar_e, List.getElem?_cons_succ, List.getElem?_cons_zero, Rs.bind_ok]
      unfold lstI
      rw [opAdd_lst _ _ (by rw [List.length_map, List.length_map]; omega), List.map_append]
  · rintro ρ ⟨s3, s4, s5, s6, rfl⟩
    rw [List.length_map, List.take_length]
    generalize hM : K.flatMap F = M
    have hMm : ∀ a, a ∈ M ↔ ∃ x b, Rm ps ms x ∧ Slide ps x a b := fun a => by
      rw [← hM, List.mem_flatMap]
      constructor
      · rintro ⟨x, hx, hxF⟩
        rw [← hF] at hxF
        obtain ⟨p, hp, rfl⟩ := List.mem_map.mp hxF
        exact ⟨x, p.2, (hK.2 x).mp hx, (slides_mem h (hKg x hx).1).mp hp⟩
      · rintro ⟨x, b, hx, hs⟩
        have hxK := (hK.2 x).mpr hx
        refine ⟨x, hxK, ?_⟩
        rw [← hF]
        exact List.mem_map.mpr ⟨(a, b), (slides_mem h (hKg x hxK).1).mpr hs, rfl⟩
    have hst : ms.filter (fun w => !decide (w ∈ M)) = stM n ps ms := by
      refine up_eq (hg.1.filter _) (stM_up hg.1) fun w => ?_
      rw [List.mem_filter, Bool.not_eq_true', decide_eq_false_iff_not, stM_mem]
      constructor
      · rintro ⟨hw, hn⟩
        refine (never G hVc (good_ind hg) hg.2.1 hw).mpr fun L y hr hs => ?_
        obtain ⟨x, hx, rfl⟩ := re_rm h.2.2.1 hr
        exact hn ((hMm w).mpr ⟨x, y, hx, (slide_iff h.2.2.1).mpr hs⟩)
      · intro hk
        have hw := (lkd_in hk).1
        refine ⟨hw, fun q => ?_⟩
        obtain ⟨x, b, hx, hs⟩ := (hMm w).mp q
        exact (never G hVc (good_ind hg) hg.2.1 hw).mp hk _ b (rm_re h.2.2.1 hx) ((slide_iff h.2.2.1).mp hs)
    refine wp_ret (d := tupI (stM n ps ms)) ?_ rfl
    have ec : lComp (iSeq (bVar 1)) (gN 4) (tNin (dVar 4) (bVar 2)) (dVar 4) [4] [.fz (webP n ps), .fz (tupI ms), .fz (lstI M), s3, s4, s5, s6] = .ok ((stM n ps ms).map PyData.int) := by
      rw [← hst]
      refine lcomp_t (f := PyData.int) (xs := ms) rfl rfl (by omega) fun w _ => ⟨_, rfl, by simp [wipeE], fun _ => by simp [wipeE]⟩
    rw [dTuple_e, dLst_e, ec]
    rfl
end
/-! ### drawn trees -/
theorem sortP_pw {l : List (Int × Int)} (hl : l.Nodup) : (sortP l).Pairwise ltP := by
  have h1 : (sortP l).Pairwise fun p q => p.1 < q.1 ∨ p.1 = q.1 ∧ p.2 ≤ q.2 := by
    have := List.pairwise_mergeSort (le := fun p q : Int × Int => decide (p.1 < q.1 ∨ p.1 = q.1 ∧ p.2 ≤ q.2)) (fun a b c h1 h2 => by simp at *; omega) (fun a b => by simp; omega) l
    exact this.imp fun h => of_decide_eq_true h
  have h2 : (sortP l).Nodup := (sortP_perm l).nodup_iff.mpr hl
  exact (h1.and (List.nodup_iff_pairwise_ne.mp h2)).imp fun {p q} ⟨q1, q2⟩ => by
    have : ¬ (p.1 = q.1 ∧ p.2 = q.2) := fun w => q2 (Prod.ext w.1 w.2)
    unfold ltP
    omega
theorem law_tree_den (ns : List Int) (k : Int) (m : Int) (m1 : 1 ≤ m) (m2 : m ≤ 11) : ∃ n ps, d__law_tree [.sc ns, .fz (.int k), .fz (.int m)] = .ok (webP n ps) ∧ GoodWeb n m ps := by
  refine run_ex (as := [.sc ns, .fz (.int k), .fz (.int m)]) (n := 6) (Q := fun r => ∃ n ps, r = .ok (webP n ps) ∧ GoodWeb n m ps) [.sc ns, .fz (.int k), .fz (.int m), .nil, .nil, .nil] ?_
  have hx0 : 0 ≤ mixZ ns k % m := Int.emod_nonneg _ (by omega)
  have hx1 : mixZ ns k % m < m := Int.emod_lt_of_pos _ (by omega)
  generalize hn : 1 + mixZ ns k % m = n
  have n1 : 1 ≤ n := by omega
  have n2 : n ≤ m := by omega
  refine wp_seq (wp_set (d := .int n) ?_ ?_)
  · simp [law_mix_den]
    rw [opMod_int _ _ (by omega)]
    simp [hn]
  refine wp_seq (wp_own (ds := []) rfl ?_)
  generalize hf : (fun j : Nat => (mixZ ns (k + (1 + (j : Int))) / 8 % (1 + (j : Int)), 1 + (j : Int))) = f
  have hf1 : ∀ j : Nat, 0 ≤ (f j).1 ∧ (f j).1 < (f j).2 ∧ (f j).2 = 1 + (j : Int) := fun j => by
    rw [← hf]
    have h0 : 0 ≤ mixZ ns (k + (1 + (j : Int))) / 8 % (1 + (j : Int)) := Int.emod_nonneg _ (by omega)
    have h1 : mixZ ns (k + (1 + (j : Int))) / 8 % (1 + (j : Int)) < 1 + (j : Int) := Int.emod_lt_of_pos _ (by omega)
    exact ⟨h0, h1, rfl⟩
  refine wp_seq (wp_for (ds := rngD 1 (n - 1).toNat) ?_ (fun i ρ => ∃ s5, ρ = [.sc ns, .fz (.int k), .fz (.int m), .fz (.int n), .ow (((List.range i).map f).map prD), s5]) ⟨_, rfl⟩ ?_ ?_)
  · simp
    have := rng2_ok 1 n (by omega) (by omega) (by omega) (by omega)
    simpa using this
  · rintro i d ρ hd ⟨s5, rfl⟩
    obtain ⟨hi, rfl⟩ := rngD_at hd
    refine ⟨_, rfl, ?_⟩
    refine wp_app (ds := ((List.range i).map f).map prD) (d := prD (f i)) rfl ?_ (by rw [List.length_map, List.length_map, List.length_range]; omega) ⟨.fz (.int (1 + (i : Int))), ?_⟩
    · rw [← hf]
      simp [law_mix_den, opDiv_int, prD]
      rw [opMod_int _ _ (by omega)]
      rfl
    · rw [List.range_succ, List.map_append, List.map_append]
      rfl
  · rintro ρ ⟨s5, rfl⟩
    rw [rngM_len]
    generalize hc : (n - 1).toNat = c
    generalize hq : (List.range c).map f = qs
    have hql : qs.length = c := by rw [← hq, List.length_map, List.length_range]
    have hqm : ∀ q ∈ qs, ∃ j : Nat, j < c ∧ q = f j := fun q hq' => by
      rw [← hq] at hq'
      obtain ⟨j, hj, rfl⟩ := List.mem_map.mp hq'
      exact ⟨j, List.mem_range.mp hj, rfl⟩
    have hnd : qs.Nodup := by
      rw [← hq]
      unfold List.Nodup
      rw [List.pairwise_map]
      refine List.pairwise_lt_range.imp fun {a b} hab e => ?_
      have h1 := (hf1 a).2.2
      have h2 := (hf1 b).2.2
      rw [e] at h1
      omega
    have o : sortS (.ow (qs.map prD)) = .ok ((sortP qs).map prD) := sortD_pairs (by omega)
    refine wp_ret (d := webP n (sortP qs)) ?_ ⟨n, sortP qs, rfl, n1, n2, fun q hq' => ?_, sortP_pw hnd, by rw [(sortP_perm qs).length_eq]; omega⟩
    · rw [webP_eq]
      simp [o]
    · obtain ⟨j, hj, rfl⟩ := hqm q ((sortP_perm qs).mem_iff.mp hq')
      have := hf1 j
      omega
def bps : List (Int × Int) := [(0, 1), (0, 2), (0, 3), (0, 4), (3, 5), (4, 6)]
theorem bps_good : GoodWeb 7 8 bps := by
  refine ⟨by decide, by decide, fun q hq => ?_, ?_, by decide⟩
  · unfold bps at hq
    simp only [List.mem_cons, List.not_mem_nil, or_false] at hq
    rcases hq with rfl | rfl | rfl | rfl | rfl | rfl <;> decide
  · unfold bps ltP
    simp
theorem bps_marks {x : Int} (h : x = 3 ∨ x = 4 ∨ x = 5 ∨ x = 6) : GoodMarks 7 bps [1, 2, x] := by
  rcases h with rfl | rfl | rfl | rfl
  all_goals
    refine ⟨by unfold Up; simp, fun s hs => ?_, by decide⟩
    simp only [List.mem_cons, List.not_mem_nil, or_false] at hs
    rcases hs with rfl | rfl | rfl <;> decide
theorem law_barred_den (ns : List Int) : ∃ x y : Int, d__law_barred [.sc ns] = .ok (.tuple [webP 7 bps, tupI [1, 2, x], tupI [1, 2, y]]) ∧ GoodMarks 7 bps [1, 2, x] ∧ GoodMarks 7 bps [1, 2, y] := by
  refine run_ex (as := [.sc ns]) (n := 3) (Q := fun r => ∃ x y : Int, r = .ok (.tuple [webP 7 bps, tupI [1, 2, x], tupI [1, 2, y]]) ∧ GoodMarks 7 bps [1, 2, x] ∧ GoodMarks 7 bps [1, 2, y]) [.sc ns, .nil, .nil] ?_
  refine wp_seq (wp_set (d := webP 7 bps) rfl ?_)
  refine wp_seq (wp_set (d := .list [.int 3, .int 4, .int 5, .int 6]) rfl ?_)
  have pick : ∀ z : Int, ∃ x : Int, atD [PyData.int 3, .int 4, .int 5, .int 6] (mixZ ns z % 4) = some (.int x) ∧ (x = 3 ∨ x = 4 ∨ x = 5 ∨ x = 6) := fun z => by
    have hj0 : 0 ≤ mixZ ns z % 4 := Int.emod_nonneg _ (by decide)
    have hj1 : mixZ ns z % 4 < 4 := Int.emod_lt_of_pos _ (by decide)
    obtain ⟨y, hy, x, rfl, hx⟩ := at4 (a := PyData.int 3) (b := PyData.int 4) (c := PyData.int 5) (d := PyData.int 6) (P := fun y => ∃ x : Int, y = .int x ∧ (x = 3 ∨ x = 4 ∨ x = 5 ∨ x = 6)) hj0 hj1 ⟨_, rfl, by simp⟩ ⟨_, rfl, by simp⟩ ⟨_, rfl, by simp⟩ ⟨_, rfl, by simp⟩
    exact ⟨x, hy, hx⟩
  obtain ⟨x, hx, hx'⟩ := pick 131
  obtain ⟨y, hy, hy'⟩ := pick 132
  refine wp_ret (d := .tuple [webP 7 bps, tupI [1, 2, x], tupI [1, 2, y]]) ?_ ⟨x, y, rfl, bps_marks hx', bps_marks hy'⟩
  simp [law_mix_den, opMod_int, hx, hy]
/-! ### what is told of a tree -/
abbrev fD (c : List Int × Int) : PyData := .tuple [lstI c.1, .int c.2]
theorem eqv_fD (a b : List Int × Int) : PyData.eqv (fD a) (fD b) = decide (a = b) := by
  unfold fD
  rw [PyData.eqv, PyData.eqvAll, PyData.eqvAll, PyData.eqvAll, eqv_int]
  rw [show PyData.eqv (lstI a.1) (lstI b.1) = decide (a.1 = b.1) from eqv_listI a.1 b.1]
  by_cases h1 : a.1 = b.1
  · by_cases h2 : a.2 = b.2
    · simp [h1, h2, Prod.ext_iff]
    · simp [h1, h2, Prod.ext_iff]
  · simp [h1, Prod.ext_iff]
theorem sh_fD (a : List Int × Int) : shN 3 (fD a) := sh_tuple fun d hd => by
  have : d = lstI a.1 ∨ d = .int a.2 := by simpa using hd
  rcases this with rfl | rfl
  · exact sh_listI _
  · exact sh_mono (sh_int _) (by decide)
theorem fp_eq (ms : List Int) (cs : List (List Int)) : cs.map (fpD ms) = (cs.map fun c => (c, (cntM ms c : Int))).map fD := by
  rw [List.map_map]
  rfl
theorem sh_fps (l : List (List Int × Int)) : shN 4 (.list (l.map fD)) := sh_list (sh_map sh_fD l)
theorem cEq_fps (l k : List (List Int × Int)) : cEq (.list (l.map fD)) (.list (k.map fD)) = .ok (decide (l = k)) := eq_of (sh_fps l) (sh_fps k) (by rw [PyData.eqv]; exact eqv_all eqv_fD l k)
theorem cNe_fps (l k : List (List Int × Int)) : cNe (.list (l.map fD)) (.list (k.map fD)) = .ok (!decide (l = k)) := ne_of (sh_fps l) (sh_fps k) (by rw [PyData.eqv]; exact eqv_all eqv_fD l k)
theorem look_two_den {n : Int} {ps : List (Int × Int)} {ms g : List Int} (hok : okWeb n (ps.map pl) = true) (hp : ps.length ≤ 1000) (h1 : ms.length < 60) (h2 : g.length < 60) : d_look_two [.fz (webP n ps), .fz (tupI ms), .fz (tupI g)] = if isMarks n ps ms = true then (if isMarks n ps g = true then (if ms.length = g.length then .ok .none else .er .unlike) else .er .marks) else .er .marks := by
  have e1 := look_marks_den n ps ms hok hp h1
  have e2 := look_marks_den n ps g hok hp h2
  refine wp_run [.fz (webP n ps), .fz (tupI ms), .fz (tupI g)] ?_
  by_cases q1 : isMarks n ps ms = true
  · rw [if_pos q1] at e1 ⊢
    refine wp_seq (wp_expr (d := .none) (by simp [e1]) ?_)
    by_cases q2 : isMarks n ps g = true
    · rw [if_pos q2] at e2 ⊢
      refine wp_seq (wp_expr (d := .none) (by simp [e2]) ?_)
      refine wp_if (b := !decide ((ms.length : Int) = g.length)) (by simp) (fun q => ?_) (fun q => ?_)
      · rw [if_neg (by simp at q; omega)]
        exact wp_raise rfl
      · rw [if_pos (by simp at q; omega)]
        exact wp_nx rfl
    · rw [if_neg q2] at e2 ⊢
      exact wp_seq (wp_expr_er (k := .marks) (by simp [e2]) rfl)
  · rw [if_neg q1] at e1 ⊢
    exact wp_seq (wp_expr_er (k := .marks) (by simp [e1]) rfl)
theorem good_marks {n : Int} {ps : List (Int × Int)} {x : List Int} (h : GoodMarks n ps x) : isMarks n ps x = true := by rw [marks_up h.1 h.2.1, h.2.2]
open Classical in
theorem cnt_sz {n : Int} {c ms : List Int} (hc : c.Nodup) (hs : ∀ z ∈ c, z ∈ rngZ 0 n) : sz (rngZ 0 n) (fun z => setL ms z ∧ z ∈ c) = cntM ms c := by
  rw [sz_list (P := setL ms) (rngZ_nodup 0 n) hc hs]
  unfold cntM
  congr 1
  refine List.filter_congr fun z _ => ?_
  exact decide_eq_decide.mpr Iff.rfl
section
variable {n m : Int} {ps : List (Int × Int)} (h : GoodWeb n m ps) (hm : m ≤ 10) {ms g : List Int} (hg : GoodMarks n ps ms) (hl : ms.length ≤ 4) (hgg : GoodMarks n ps g)
include h hm hg hgg
/-- of a tree: it is told just if one comes from the one to the other -/
theorem told_iff (G : Gr (Adj ps) (rngZ 0 n)) {cs : List (List Int)} (hP : PartsOf (nbr ps) (frM n ps (stM n ps ms)) cs) : (stM n ps ms = stM n ps g ∧ ∀ c ∈ cs, cntM ms c = cntM g c) ↔ Rm ps ms g := by
  have hVv : ∀ z, Vn n z → z ∈ rngZ 0 n := fun z q => rngZ_mem.mpr q
  have hVc := vn_adj h.2.2.1
  have hF : (fun z => z ∈ frM n ps (stM n ps ms)) = freeF (Adj ps) (Vn n) (setL ms) := funext fun z => propext frM_mem
  have comp : ∀ c ∈ cs, ∀ r ∈ c, ∀ z, z ∈ c ↔ Cn (Adj ps) (freeF (Adj ps) (Vn n) (setL ms)) r z := fun c hc r hr z => by
    rw [part_mem (nbr_symm ps) (hP.each c hc) hr, rch_cn ((hP.each c hc).sub r hr), hF]
  have hcs : ∀ c ∈ cs, ∀ z ∈ c, z ∈ rngZ 0 n := fun c hc z hz => rngZ_mem.mpr (frM_in ((hP.each c hc).sub z hz))
  have cs1 : ∀ c ∈ cs, ∀ r ∈ c, ∀ x : List Int, sz (rngZ 0 n) (fun z => setL x z ∧ Cn (Adj ps) (freeF (Adj ps) (Vn n) (setL ms)) r z) = cntM x c := fun c hc r hr x => by
    rw [← cnt_sz (Up.nodup (hP.each c hc).up) (hcs c hc)]
    exact sz_congr fun z => and_congr Iff.rfl (comp c hc r hr z).symm
  rw [rm_iff h hg hgg]
  constructor
  · rintro ⟨h1, h2⟩
    refine parts_re G hVv hVc (good_ind hg) (good_ind hgg) hg.2.1 hgg.2.1 (fun x => by rw [← stM_mem, ← stM_mem, h1]) fun r hr => ?_
    have hr' : r ∈ frM n ps (stM n ps ms) := frM_mem.mpr hr
    obtain ⟨c, hc, hrc⟩ := hP.cov r hr'
    rw [cs1 c hc r hrc, cs1 c hc r hrc, h2 c hc]
  · intro hr
    refine ⟨up_eq (stM_up hg.1) (stM_up hgg.1) fun x => ?_, fun c hc => ?_⟩
    · rw [stM_mem, stM_mem]
      exact lkd_re G (good_ind hg) hr
    · obtain ⟨r, hrc, _⟩ := (hP.each c hc).root
      rw [← cs1 c hc r hrc, ← cs1 c hc r hrc]
      exact (re_count G hVv (good_ind hg) hr r).symm
include hl
open Classical in
theorem tree_told_den (hb : d_is_tree [.fz (webP n ps)] = .ok (.bool true)) (G : Gr (Adj ps) (rngZ 0 n)) (hgl : g.length = ms.length) : d_tree_told [.fz (webP n ps), .fz (tupI ms), .fz (tupI g)] = .ok (.bool (decide (Rm ps ms g))) := by
  have hlt : d_look_two [.fz (webP n ps), .fz (tupI ms), .fz (tupI g)] = .ok .none := by
    rw [look_two_den (good_ok h (by omega)) (by have := h.2.2.2.2; omega) (by omega) (by omega), if_pos (good_marks hg), if_pos (good_marks hgg), if_pos hgl.symm]
  have s1 := stiff_den h hm hg hl hb G
  have s2 := stiff_den h hm hgg (by omega) hb G
  obtain ⟨cs, f1, hP⟩ := free_parts_den h hm hg hl hb G
  obtain ⟨cs', f2, hP'⟩ := free_parts_den h hm hgg (by omega) hb G
  have hiff := told_iff h hm hg hgg G hP
  refine wp_run [.fz (webP n ps), .fz (tupI ms), .fz (tupI g)] ?_
  refine wp_seq (wp_expr (d := .none) (by simp [hlt]) ?_)
  refine wp_seq (wp_if (b := false) (by simp [hb]) (fun q => by cases q) (fun _ => wp_nx ?_))
  refine wp_ret (d := .bool (decide (Rm ps ms g))) ?_ rfl
  by_cases q : stM n ps ms = stM n ps g
  · rw [← q] at hP'
    have e := parts_unique (nbr_symm ps) hP hP'
    subst e
    rw [fp_eq] at f1 f2
    have hdec : decide (Rm ps ms g) = decide ((cs.map fun c => (c, (cntM ms c : Int))) = cs.map fun c => (c, (cntM g c : Int))) := by
      refine decide_eq_decide.mpr (hiff.symm.trans ?_)
      rw [List.map_inj_left]
      constructor
      · rintro ⟨_, r⟩ c hc
        rw [r c hc]
      · intro r
        refine ⟨q, fun c hc => ?_⟩
        have := congrArg Prod.snd (r c hc)
        simp only at this
        omega
    rw [hdec]
    have ce := cEq_fps (cs.map fun c => (c, (cntM ms c : Int))) (cs.map fun c => (c, (cntM g c : Int)))
    have c2 := cEq_tup (stM n ps ms) (stM n ps g)
    rw [decide_eq_true q] at c2
    simp only [dAnd_e, dT_e, tCmp_e, dCall_e, saCons_e, saNil_e, bVar_e, List.getElem?_cons_succ, List.getElem?_cons_zero, Rs.bind_ok, frzS_f, s1, s2, c2, asB_b, if_true, f1, f2, ce]
  · have hn : ¬ Rm ps ms g := fun r => q (hiff.mpr r).1
    rw [decide_eq_false hn]
    have c2 := cEq_tup (stM n ps ms) (stM n ps g)
    rw [decide_eq_false q] at c2
    simp only [dAnd_e, dT_e, tCmp_e, dCall_e, saCons_e, saNil_e, bVar_e, List.getElem?_cons_succ, List.getElem?_cons_zero, Rs.bind_ok, frzS_f, s1, s2, c2, asB_b, Bool.false_eq_true, if_false]
end
/-! ### the law's questions -/
def callT (a : Int) (w x g : Sl) : Rs PyData := if a = 0 then d_stiff [w, x] else if a = 1 then d_free_parts [w, x] else d_tree_told [w, x, g]
theorem gotT_ok {a : Int} {w x g d : PyData} (hc : callT a (.fz w) (.fz x) (.fz g) = .ok d) : d__law_got [.fz (.int a), .fz w, .fz x, .fz g] = .ok d := by
  refine wp_run [.fz (.int a), .fz w, .fz x, .fz g, .nil, .nil, .nil] ?_
  refine wp_seq (wp_set (d := .none) rfl ?_)
  refine wp_seq (wp_set (d := .none) rfl ?_)
  unfold callT at hc
  refine wp_seq (wp_try ?_)
  refine wp_if (b := decide (a = 0)) (by simp) (fun q => ?_) (fun q => ?_)
  · rw [if_pos (of_decide_eq_true q)] at hc
    exact wp_set (d := d) (by simp [hc]) (wp_ret (d := d) (by simp [isN]) rfl)
  rw [if_neg (of_decide_eq_false q)] at hc
  refine wp_set (d := d) ?_ (wp_ret (d := d) (by simp [isN]) rfl)
  by_cases q : a = 1
  · rw [if_pos q] at hc
    simp [q, hc]
  · rw [if_neg q] at hc
    simp [q, hc]
theorem gotT_er {a : Int} {w x g : PyData} {k : XK} (hc : callT a (.fz w) (.fz x) (.fz g) = .er k) : d__law_got [.fz (.int a), .fz w, .fz x, .fz g] = .ok (.str (kName k)) := by
  refine wp_run [.fz (.int a), .fz w, .fz x, .fz g, .nil, .nil, .nil] ?_
  refine wp_seq (wp_set (d := .none) rfl ?_)
  refine wp_seq (wp_set (d := .none) rfl ?_)
  unfold callT at hc
  have fin : W ((sRet (dIf (tIsN (bVar 4)) (dVar 5) (dCall d__law_refusal (saCons (bVar 4) saNil)))) [.fz (.int a), .fz w, .fz x, .fz g, .ex k, .fz .none, .nil]) (fun _ => Rs.ok PyData.none = .ok (.str (kName k))) (fun o => ouR o = .ok (.str (kName k))) :=
    wp_ret (d := .str (kName k)) (by simp [isN, refusal_den]) rfl
  refine wp_seq (wp_try ?_)
  refine wp_if (b := decide (a = 0)) (by simp) (fun q => ?_) (fun q => ?_)
  · rw [if_pos (of_decide_eq_true q)] at hc
    exact wp_set_er (k := k) (by simp [hc]) ⟨by simp, fin⟩
  rw [if_neg (of_decide_eq_false q)] at hc
  refine wp_set_er (k := k) ?_ ⟨by simp, fin⟩
  by_cases q : a = 1
  · rw [if_pos q] at hc
    simp [q, hc]
  · rw [if_neg q] at hc
    simp [q, hc]
theorem stiff_er {w x : PyData} {k : XK} (hx : d_look_tree [.fz w, .fz x] = .er k) : d_stiff [.fz w, .fz x] = .er k := by
  refine wp_run [.fz w, .fz x, .nil, .nil] ?_
  exact wp_seq (wp_expr_er (k := k) (by simp [hx]) rfl)
theorem free_er {w x : PyData} {k : XK} (hx : d_look_tree [.fz w, .fz x] = .er k) : d_free_parts [.fz w, .fz x] = .er k := by
  refine wp_run [.fz w, .fz x, .nil, .nil, .nil, .nil, .nil, .nil] ?_
  exact wp_seq (wp_set_er (k := k) (by simp [stiff_er hx]) rfl)
theorem told_er1 {w x g : PyData} {k : XK} (hx : d_look_two [.fz w, .fz x, .fz g] = .er k) : d_tree_told [.fz w, .fz x, .fz g] = .er k := by
  refine wp_run [.fz w, .fz x, .fz g] ?_
  exact wp_seq (wp_expr_er (k := k) (by simp [hx]) rfl)
theorem told_er2 {w x g : PyData} (hx : d_look_two [.fz w, .fz x, .fz g] = .ok .none) (hb : d_is_tree [.fz w] = .ok (.bool false)) : d_tree_told [.fz w, .fz x, .fz g] = .er .tree := by
  refine wp_run [.fz w, .fz x, .fz g] ?_
  refine wp_seq (wp_expr (d := .none) (by simp [hx]) ?_)
  exact wp_seq (wp_if (b := true) (by simp [hb]) (fun _ => wp_raise rfl) (fun q => by cases q))
theorem look_two_er1 {w x g : PyData} {k : XK} (hx : d_look_marks [.fz w, .fz x] = .er k) : d_look_two [.fz w, .fz x, .fz g] = .er k := by
  refine wp_run [.fz w, .fz x, .fz g] ?_
  exact wp_seq (wp_expr_er (k := k) (by simp [hx]) rfl)
theorem look_tree_er {w x : PyData} {k : XK} (hx : d_look_marks [.fz w, .fz x] = .er k) : d_look_tree [.fz w, .fz x] = .er k := by
  refine wp_run [.fz w, .fz x] ?_
  exact wp_seq (wp_expr_er (k := k) (by simp [hx]) rfl)
theorem callT_look {a : Int} {w x g : PyData} {k : XK} (hx : d_look_marks [.fz w, .fz x] = .er k) : callT a (.fz w) (.fz x) (.fz g) = .er k := by
  unfold callT
  by_cases q0 : a = 0
  · rw [if_pos q0]; exact stiff_er (look_tree_er hx)
  rw [if_neg q0]
  by_cases q1 : a = 1
  · rw [if_pos q1]; exact free_er (look_tree_er hx)
  rw [if_neg q1]
  exact told_er1 (look_two_er1 hx)
end MS

/-! MsM_k20: the law. -/
namespace MS
open PySem

theorem callT0 (w x g : Sl) : callT 0 w x g = d_stiff [w, x] := rfl
theorem callT1 (w x g : Sl) : callT 1 w x g = d_free_parts [w, x] := rfl
theorem callT2 (w x g : Sl) : callT 2 w x g = d_tree_told [w, x, g] := rfl
theorem range3 : rng1 (.int 3) = .ok ((List.range 3).map fun (i : Nat) => PyData.int i) := by rw [show (3 : Int) = ((3 : Nat) : Int) from rfl, rng1_nat 3 (by decide), rngD_map]
theorem sh_strs (l : List Str) (h : ∀ s ∈ l, (PyData.str s).canLay0 = true) : shN 2 (.list (l.map .str)) := sh_list fun d hd => by
  obtain ⟨s, hs, rfl⟩ := List.mem_map.mp hd
  exact sh_str s (h s hs)
theorem good_mono {n m m' : Int} {ps : List (Int × Int)} (h : GoodWeb n m ps) (hm : m ≤ m') : GoodWeb n m' ps := ⟨h.1, Int.le_trans h.2.1 hm, h.2.2⟩
theorem marks_bad_at {n : Int} {ps : List (Int × Int)} {ms : List Int} {s : Int} (hs : s ∈ ms) (h : ¬ (0 ≤ s ∧ s < n)) : isMarks n ps ms = false := by
  unfold isMarks
  have : (ms.all fun s => decide (0 ≤ s ∧ s < n)) = false := by
    refine Bool.eq_false_iff.mpr fun q => ?_
    have := List.all_eq_true.mp q s hs
    exact h (of_decide_eq_true this)
  rw [this, Bool.and_false, Bool.false_and]
/-- the three questions, each answered -/
theorem ask3 {ρ : Env} {w x g : PyData} {fw fx fg : DB} {r : Nat → PyData} (hw : ∀ d, fw (ρ.set 9 (.fz d)) = .ok (.fz w)) (hx : ∀ d, fx (ρ.set 9 (.fz d)) = .ok (.fz x)) (hg : ∀ d, fg (ρ.set 9 (.fz d)) = .ok (.fz g)) (h9 : 9 < ρ.length) (hr : ∀ i : Nat, i < 3 → d__law_got [.fz (.int i), .fz w, .fz x, .fz g] = .ok (r i)) (hn : ∀ d, (wipeE ρ [9]).set 9 (.fz d) = ρ.set 9 (.fz d)) : lComp (iR1 (dC (.int 3))) (gN 9) tYes (dCall d__law_got (saCons (bVar 9) (saCons fw (saCons fx (saCons fg saNil))))) [9] ρ = .ok ((List.range 3).map r) := by
  refine lcomp_a (f := fun (i : Nat) => PyData.int i) (xs := List.range 3) range3 rfl (by decide) fun i hi => ⟨_, rfl, ?_⟩
  have hi' : i < 3 := List.mem_range.mp hi
  rw [hn]
  have e9 : bVar 9 (ρ.set 9 (.fz (.int i))) = .ok (.fz (.int i)) := by simp [h9]
  rw [dCall_e, saCons_e, e9, Rs.bind_ok, frzS_f, Rs.bind_ok, saCons_e, hw, Rs.bind_ok, frzS_f, Rs.bind_ok, saCons_e, hx, Rs.bind_ok, frzS_f, Rs.bind_ok, saCons_e, hg]
  simp only [Rs.bind_ok, frzS_f, saNil_e]
  exact hr i hi'
open Classical in
theorem law_true (ns : List Int) (hns : ns.length ≤ 63) : d_law [.sc ns] = .ok (.bool true) := by
  obtain ⟨n1, ps1, hweb1, hG1⟩ := law_web_den ns 0 6 (by decide) (by decide)
  obtain ⟨n2, ps2, hweb2, hG2⟩ := law_tree_den ns 0 8 (by decide) (by decide)
  refine wp_run [.sc ns, .nil, .nil, .nil, .nil, .nil, .nil, .nil, .nil, .nil] ?_
  refine wp_seq (wp_set (d := webP n1 ps1) (by simp [hweb1]) ?_)
  -- the end, for a web, marks and others
  have fin : ∀ (n : Int) (ps : List (Int × Int)) (ms g : List Int) (K : List (List Int)), GoodWeb n 8 ps → GoodMarks n ps ms → ms.length ≤ 4 → GoodMarks n ps g → g.length ≤ 4 → IsRm ps ms K → W (sSeq (sIf (tNot (tTru (bOf (dCall d__law_is_tree (saCons (bVar 1) saNil)))))
  (sSeq (sSet 8 (dIf (tCmp cEq (dLen (bVar 4)) (dLen (bVar 2))) (dC (.str "tree")) (dC (.str "unlike"))))
  (sRet (dT (tCmp cEq (dLst (lComp (iR1 (dC (.int 3))) (gN 9) tYes (dCall d__law_got (saCons (bVar 9) (saCons (bVar 1) (saCons (bVar 2) (saCons (bVar 4) saNil))))) [9])) (dLst (lCons (dC (.str "tree")) (lCons (dC (.str "tree")) (lCons (dVar 8) lNil))))))))
  sNx)
  (sSeq (sSet 5 (dCall d__law_stiff (saCons (bVar 1) (saCons (bVar 2) saNil))))
  (sSeq (sSet 6 (dCall d__law_parts (saCons (bVar 1) (saCons (bVar 5) (saCons (bVar 2) saNil)))))
  (sSeq (sIf (tOr (tCmp cNe (dCall d__law_got (saCons (bOf (dC (.int 0))) (saCons (bVar 1) (saCons (bVar 2) (saCons (bOf (dTup lNil)) saNil))))) (dVar 5)) (tCmp cNe (dCall d__law_got (saCons (bOf (dC (.int 1))) (saCons (bVar 1) (saCons (bVar 2) (saCons (bOf (dTup lNil)) saNil))))) (dVar 6)))
  (sRet (dC (.bool false)))
  sNx)
  (sSeq (sSet 7 (dCall d__law_got (saCons (bOf (dC (.int 2))) (saCons (bVar 1) (saCons (bVar 2) (saCons (bVar 4) saNil))))))
  (sSeq (sIf (tCmp cNe (dLen (bVar 4)) (dLen (bVar 2)))
  (sRet (dT (tCmp cEq (dVar 7) (dC (.str "unlike")))))
  sNx)
  (sSeq (sIf (tOr (tNot (tTru (bOf (dIsB (bVar 7))))) (tCmp cNe (dVar 7) (dT (tIn (dVar 4) (bVar 3)))))
  (sRet (dC (.bool false)))
  sNx)
  (sSeq (sIf (tCmp cNe (dLst (lComp (iR1 (dC (.int 3))) (gN 9) tYes (dCall d__law_got (saCons (bVar 9) (saCons (bVar 1) (saCons (bOf (dTup (lCons (dC (.int 99)) lNil))) (saCons (bOf (dTup (lCons (dC (.int 98)) lNil))) saNil))))) [9])) (dBin opMul (dLst (lCons (dC (.str "marks")) lNil)) (dC (.int 3))))
  (sRet (dC (.bool false)))
  sNx)
  (sRet (dT (tCmp cEq (dLst (lComp (iR1 (dC (.int 3))) (gN 9) tYes (dCall d__law_got (saCons (bVar 9) (saCons (bOf (dTup (lCons (dC (.int 13)) (lCons (dLst lNil) lNil)))) (saCons (bOf (dTup (lCons (dC (.int 99)) lNil))) (saCons (bOf (dTup (lCons (dC (.int 98)) lNil))) saNil))))) [9])) (dBin opMul (dLst (lCons (dC (.str "web")) lNil)) (dC (.int 3)))))))))))))
   [.sc ns, .fz (webP n ps), .fz (tupI ms), .fz (.list (K.map tupI)), .fz (tupI g), .nil, .nil, .nil, .nil, .nil]) (fun _ => Rs.ok PyData.none = .ok (.bool true)) (fun o => ouR o = .ok (.bool true)) := by
    intro n ps ms g K hG hg hml hgg hgl hK
    have hok := good_ok hG (by decide)
    have hpl := hG.2.2.2.2
    obtain ⟨b, hb, hbi⟩ := is_tree_den hG (by decide)
    obtain ⟨b', hb', hbi'⟩ := law_is_tree_den hG (by decide)
    have ebb : b = b' := Bool.eq_iff_iff.mpr (hbi.trans hbi'.symm)
    subst ebb
    have hlm := look_good hG (by decide) hg hml
    have hlt := look_two_den (ms := ms) (g := g) hok (by omega) (by omega) (by omega)
    rw [if_pos (good_marks hg), if_pos (good_marks hgg)] at hlt
    refine wp_seq (wp_if (b := !b) (by simp [hb']) (fun q => ?_) (fun q => wp_nx ?_))
    · -- no tree
      rw [Bool.not_eq_true'] at q
      subst q
      have hlk := look_tree_den hG (by decide) hg hml hb
      rw [if_neg Bool.false_ne_true] at hlk
      have hcmp : decide ((g.length : Int) = ms.length) = decide (ms.length = g.length) := decide_eq_decide.mpr (by omega)
      generalize hdue : (if ms.length = g.length then ("tree" : Str) else "unlike") = due
      have hr : ∀ i : Nat, i < 3 → d__law_got [.fz (.int i), .fz (webP n ps), .fz (tupI ms), .fz (tupI g)] = .ok (if i < 2 then .str "tree" else .str due) := fun i hi => by
        have : i = 0 ∨ i = 1 ∨ i = 2 := by omega
        rcases this with rfl | rfl | rfl
        · exact gotT_er (k := .tree) (by rw [show ((0 : Nat) : Int) = 0 from rfl, callT0]; exact stiff_er hlk)
        · exact gotT_er (k := .tree) (by rw [show ((1 : Nat) : Int) = 1 from rfl, callT1]; exact free_er hlk)
        · by_cases e : ms.length = g.length
          · rw [if_pos e] at hlt hdue
            rw [← hdue]
            exact gotT_er (k := .tree) (by rw [show ((2 : Nat) : Int) = 2 from rfl, callT2]; exact told_er2 hlt hb)
          · rw [if_neg e] at hlt hdue
            rw [← hdue]
            exact gotT_er (k := .unlike) (by rw [show ((2 : Nat) : Int) = 2 from rfl, callT2]; exact told_er1 hlt)
      refine wp_seq (wp_set (d := .str due) ?_ ?_)
      · rw [← hdue]
        by_cases e : ms.length = g.length
        · simp [e]
        · have e2 : ¬ ((g.length : Int) = ms.length) := by omega
          simp [e, e2]
      refine wp_ret (d := .bool true) ?_ rfl
      have ec := ask3 (ρ := [.sc ns, .fz (webP n ps), .fz (tupI ms), .fz (.list (K.map tupI)), .fz (tupI g), .nil, .nil, .nil, .fz (.str due), .nil]) (fw := bVar 1) (fx := bVar 2) (fg := bVar 4) (fun _ => rfl) (fun _ => rfl) (fun _ => rfl) (by simp) hr (fun _ => rfl)
      have hcl : (PyData.str due).canLay0 = true := by
        rw [← hdue]
        split <;> decide +kernel
      have hs : shN 2 (.list [.str "tree", .str "tree", .str due]) := sh_strs ["tree", "tree", due] fun s hs => by
        simp only [List.mem_cons, List.not_mem_nil, or_false] at hs
        rcases hs with rfl | rfl | rfl
        · decide +kernel
        · decide +kernel
        · exact hcl
      rw [dT_e, tCmp_e, dLst_e]
      show (((lComp _ _ _ _ _ [.sc ns, .fz (webP n ps), .fz (tupI ms), .fz (.list (K.map tupI)), .fz (tupI g), .nil, .nil, .nil, .fz (.str due), .nil]).bind _).bind _).bind _ = _
      rw [ec]
      show ((cEq (.list [.str "tree", .str "tree", .str due]) (.list [.str "tree", .str "tree", .str due])).bind _) = _
      rw [cEq_self hs]
      rfl
    -- a tree
    rw [Bool.not_eq_false'] at q
    subst q
    obtain ⟨hlen, hconn⟩ := hbi.mp rfl
    have G := tree_gr hG hlen hconn
    have hn8 := hG.2.1
    have hst := stiff_den hG (by decide) hg hml hb G
    have hlst := law_stiff_den hG (by decide) hg hml G (by omega)
    have hstl : (stM n ps ms).length ≤ 1000 := by
      have : (stM n ps ms).length ≤ ms.length := List.length_filter_le _ _
      omega
    obtain ⟨cs', hlp, hP'⟩ := law_parts_den hG (by decide) (ms := ms) (st := stM n ps ms) hstl (by omega)
    obtain ⟨cs, hfp, hP⟩ := free_parts_den hG (by decide) hg hml hb G
    have ecs := parts_unique (nbr_symm ps) hP hP'
    subst ecs
    refine wp_seq (wp_set (d := tupI (stM n ps ms)) (by simp [hlst]) ?_)
    refine wp_seq (wp_set (d := .list (cs.map (fpD ms))) (by simp [hlp]) ?_)
    have q0 : ∀ x : PyData, d__law_got [.fz (.int 0), .fz (webP n ps), .fz (tupI ms), .fz x] = .ok (tupI (stM n ps ms)) := fun x => gotT_ok (by rw [callT0]; exact hst)
    have q1 : ∀ x : PyData, d__law_got [.fz (.int 1), .fz (webP n ps), .fz (tupI ms), .fz x] = .ok (.list (cs.map (fpD ms))) := fun x => gotT_ok (by rw [callT1]; exact hfp)
    have sfp : shN 4 (.list (cs.map (fpD ms))) := by rw [fp_eq]; exact sh_fps _
    refine wp_seq (wp_if (b := false) ?_ (fun q => by cases q) (fun _ => wp_nx ?_))
    · simp only [List.set_cons_succ, List.set_cons_zero, tOr_e, tCmp_e, dCall_e, saCons_e, saNil_e, bOf_e, bVar_e, dVar_e, dC_e, dTup_e, lNil_e, List.getElem?_cons_succ, List.getElem?_cons_zero, Rs.bind_ok, frzS_f, q0, q1, cNe_self (sh_tupI (stM n ps ms)), cNe_self sfp, Bool.false_eq_true, if_false]
    -- behind what is told of the two
    have hmk : ∀ s7 s8 s9 : Sl, W (sSeq (sIf (tCmp cNe (dLst (lComp (iR1 (dC (.int 3))) (gN 9) tYes (dCall d__law_got (saCons (bVar 9) (saCons (bVar 1) (saCons (bOf (dTup (lCons (dC (.int 99)) lNil))) (saCons (bOf (dTup (lCons (dC (.int 98)) lNil))) saNil))))) [9])) (dBin opMul (dLst (lCons (dC (.str "marks")) lNil)) (dC (.int 3))))
  (sRet (dC (.bool false)))
  sNx)
  (sRet (dT (tCmp cEq (dLst (lComp (iR1 (dC (.int 3))) (gN 9) tYes (dCall d__law_got (saCons (bVar 9) (saCons (bOf (dTup (lCons (dC (.int 13)) (lCons (dLst lNil) lNil)))) (saCons (bOf (dTup (lCons (dC (.int 99)) lNil))) (saCons (bOf (dTup (lCons (dC (.int 98)) lNil))) saNil))))) [9])) (dBin opMul (dLst (lCons (dC (.str "web")) lNil)) (dC (.int 3))))))
     [.sc ns, .fz (webP n ps), .fz (tupI ms), .fz (.list (K.map tupI)), .fz (tupI g), .fz (tupI (stM n ps ms)), .fz (.list (cs.map (fpD ms))), s7, s8, s9]) (fun _ => Rs.ok PyData.none = .ok (.bool true)) (fun o => ouR o = .ok (.bool true)) := fun s7 s8 s9 => by
      have hbad : d_look_marks [.fz (webP n ps), .fz (.tuple [.int 99])] = .er .marks := by
        show d_look_marks [.fz (webP n ps), .fz (tupI [99])] = _
        rw [look_marks_den n ps [99] hok (by omega) (by simp), if_neg]
        rw [marks_bad_at (s := 99) (by simp) (by omega)]
        exact Bool.false_ne_true
      have hb13 : d_look_marks [.fz (.tuple [.int 13, .list []]), .fz (.tuple [.int 99])] = .er .web := look_marks_bad (n := 13) (ls := []) (bad_n (by omega)) (by simp) _
      have ec1 := ask3 (ρ := [.sc ns, .fz (webP n ps), .fz (tupI ms), .fz (.list (K.map tupI)), .fz (tupI g), .fz (tupI (stM n ps ms)), .fz (.list (cs.map (fpD ms))), s7, s8, s9]) (fw := bVar 1) (fx := bOf (dTup (lCons (dC (.int 99)) lNil))) (fg := bOf (dTup (lCons (dC (.int 98)) lNil))) (r := fun _ => .str "marks") (fun _ => rfl) (fun _ => rfl) (fun _ => rfl) (by simp) (fun i _ => gotT_er (k := .marks) (callT_look hbad)) (fun _ => rfl)
      have ec2 := ask3 (ρ := [.sc ns, .fz (webP n ps), .fz (tupI ms), .fz (.list (K.map tupI)), .fz (tupI g), .fz (tupI (stM n ps ms)), .fz (.list (cs.map (fpD ms))), s7, s8, s9]) (fw := bOf (dTup (lCons (dC (.int 13)) (lCons (dLst lNil) lNil)))) (fx := bOf (dTup (lCons (dC (.int 99)) lNil))) (fg := bOf (dTup (lCons (dC (.int 98)) lNil))) (r := fun _ => .str "web") (fun _ => rfl) (fun _ => rfl) (fun _ => rfl) (by simp) (fun i _ => gotT_er (k := .web) (callT_look hb13)) (fun _ => rfl)
      have hs1 : shN 2 (.list (List.replicate 3 [PyData.str "marks"]).flatten) := sh_strs ["marks", "marks", "marks"] (by decide +kernel)
      have hs2 : shN 2 (.list (List.replicate 3 [PyData.str "web"]).flatten) := sh_strs ["web", "web", "web"] (by decide +kernel)
      have om1 : opMul (.list [.str "marks"]) (.int 3) = .ok (.list (List.replicate 3 [PyData.str "marks"]).flatten) := rfl
      have om2 : opMul (.list [.str "web"]) (.int 3) = .ok (.list (List.replicate 3 [PyData.str "web"]).flatten) := rfl
      have ef1 : ((List.range 3).map fun _ => PyData.str "marks") = (List.replicate 3 [PyData.str "marks"]).flatten := rfl
      have ef2 : ((List.range 3).map fun _ => PyData.str "web") = (List.replicate 3 [PyData.str "web"]).flatten := rfl
      refine wp_seq (wp_if (b := false) ?_ (fun q => by cases q) (fun _ => wp_nx ?_))
      · rw [tCmp_e, dLst_e, ec1, ef1]
        simp only [Rs.bind_ok, dBin_e, dLst_e, lCons_e, lNil_e, dC_e, om1]
        exact cNe_self hs1
      · refine wp_ret (d := .bool true) ?_ rfl
        rw [dT_e, tCmp_e, dLst_e, ec2, ef2]
        simp only [Rs.bind_ok, dBin_e, dLst_e, lCons_e, lNil_e, dC_e, om2]
        rw [cEq_self hs2]
        rfl
    by_cases heq : ms.length = g.length
    · have htt := tree_told_den hG (by decide) hg hml hgg hb G heq.symm
      have q2 : d__law_got [.fz (.int 2), .fz (webP n ps), .fz (tupI ms), .fz (tupI g)] = .ok (.bool (decide (Rm ps ms g))) := gotT_ok (by rw [callT2]; exact htt)
      refine wp_seq (wp_set (d := .bool (decide (Rm ps ms g))) (by simp [q2]) ?_)
      refine wp_seq (wp_if (b := false) (by simp [heq]) (fun q => by cases q) (fun _ => wp_nx ?_))
      have hKd : decide (g ∈ K) = decide (Rm ps ms g) := decide_eq_decide.mpr (hK.2 g)
      refine wp_seq (wp_if (b := false) ?_ (fun q => by cases q) (fun _ => wp_nx (hmk _ _ _)))
      have hin := cIn_lsT g K
      rw [hKd] at hin
      simp only [List.set_cons_succ, List.set_cons_zero, tOr_e, tNot_e, tTru_e, bOf_e, dIsB_e, tCmp_e, dT_e, tIn_e, bVar_e, dVar_e, List.getElem?_cons_succ, List.getElem?_cons_zero, Rs.bind_ok, truS_b, hin, cNe_bool, Bool.not_true, Bool.false_eq_true, if_false, beq_self_eq_true]
    · rw [if_neg heq] at hlt
      have q2 : d__law_got [.fz (.int 2), .fz (webP n ps), .fz (tupI ms), .fz (tupI g)] = .ok (.str "unlike") := gotT_er (k := .unlike) (by rw [callT2]; exact told_er1 hlt)
      refine wp_seq (wp_set (d := .str "unlike") (by simp [q2]) ?_)
      refine wp_seq (wp_if (b := true) (by simp; omega) (fun _ => ?_) (fun q => by cases q))
      refine wp_ret (d := .bool true) ?_ rfl
      simp [cEq_self (sh_str "unlike" (by decide +kernel))]
  -- the web that is drawn
  have mid : ∀ (n : Int) (ps : List (Int × Int)), GoodWeb n 8 ps → W (sSeq (sSet 2 (dCall d__law_marks (saCons (bVar 0) (saCons (bOf (dC (.int 110))) (saCons (bVar 1) (saCons (bOf (dC (.int 4))) saNil))))))
  (sSeq (sSet 3 (dCall d__law_room (saCons (bVar 1) (saCons (bVar 2) saNil))))
  (sSeq (sSet 4 (dIx (bVar 3) (dBin opMod (dCall d__law_mix (saCons (bVar 0) (saCons (bOf (dC (.int 120))) saNil))) (dLen (bVar 3)))))
  (sSeq (sIf (tCmp cEq (dBin opMod (dCall d__law_mix (saCons (bVar 0) (saCons (bOf (dC (.int 121))) saNil))) (dC (.int 2))) (dC (.int 0)))
  (sSet 4 (dCall d__law_marks (saCons (bVar 0) (saCons (bOf (dC (.int 122))) (saCons (bVar 1) (saCons (bOf (dC (.int 4))) saNil))))))
  sNx)
  (sSeq (sIf (tCmp cEq (dBin opMod (dCall d__law_mix (saCons (bVar 0) (saCons (bOf (dC (.int 130))) saNil))) (dC (.int 6))) (dC (.int 0)))
  (sSeq (sTg (gT [1, 2, 4]) (dCall d__law_barred (saCons (bVar 0) saNil)))
  (sSet 3 (dCall d__law_room (saCons (bVar 1) (saCons (bVar 2) saNil)))))
  sNx)
  (sSeq (sIf (tNot (tTru (bOf (dCall d__law_is_tree (saCons (bVar 1) saNil)))))
  (sSeq (sSet 8 (dIf (tCmp cEq (dLen (bVar 4)) (dLen (bVar 2))) (dC (.str "tree")) (dC (.str "unlike"))))
  (sRet (dT (tCmp cEq (dLst (lComp (iR1 (dC (.int 3))) (gN 9) tYes (dCall d__law_got (saCons (bVar 9) (saCons (bVar 1) (saCons (bVar 2) (saCons (bVar 4) saNil))))) [9])) (dLst (lCons (dC (.str "tree")) (lCons (dC (.str "tree")) (lCons (dVar 8) lNil))))))))
  sNx)
  (sSeq (sSet 5 (dCall d__law_stiff (saCons (bVar 1) (saCons (bVar 2) saNil))))
  (sSeq (sSet 6 (dCall d__law_parts (saCons (bVar 1) (saCons (bVar 5) (saCons (bVar 2) saNil)))))
  (sSeq (sIf (tOr (tCmp cNe (dCall d__law_got (saCons (bOf (dC (.int 0))) (saCons (bVar 1) (saCons (bVar 2) (saCons (bOf (dTup lNil)) saNil))))) (dVar 5)) (tCmp cNe (dCall d__law_got (saCons (bOf (dC (.int 1))) (saCons (bVar 1) (saCons (bVar 2) (saCons (bOf (dTup lNil)) saNil))))) (dVar 6)))
  (sRet (dC (.bool false)))
  sNx)
  (sSeq (sSet 7 (dCall d__law_got (saCons (bOf (dC (.int 2))) (saCons (bVar 1) (saCons (bVar 2) (saCons (bVar 4) saNil))))))
  (sSeq (sIf (tCmp cNe (dLen (bVar 4)) (dLen (bVar 2)))
  (sRet (dT (tCmp cEq (dVar 7) (dC (.str "unlike")))))
  sNx)
  (sSeq (sIf (tOr (tNot (tTru (bOf (dIsB (bVar 7))))) (tCmp cNe (dVar 7) (dT (tIn (dVar 4) (bVar 3)))))
  (sRet (dC (.bool false)))
  sNx)
  (sSeq (sIf (tCmp cNe (dLst (lComp (iR1 (dC (.int 3))) (gN 9) tYes (dCall d__law_got (saCons (bVar 9) (saCons (bVar 1) (saCons (bOf (dTup (lCons (dC (.int 99)) lNil))) (saCons (bOf (dTup (lCons (dC (.int 98)) lNil))) saNil))))) [9])) (dBin opMul (dLst (lCons (dC (.str "marks")) lNil)) (dC (.int 3))))
  (sRet (dC (.bool false)))
  sNx)
  (sRet (dT (tCmp cEq (dLst (lComp (iR1 (dC (.int 3))) (gN 9) tYes (dCall d__law_got (saCons (bVar 9) (saCons (bOf (dTup (lCons (dC (.int 13)) (lCons (dLst lNil) lNil)))) (saCons (bOf (dTup (lCons (dC (.int 99)) lNil))) (saCons (bOf (dTup (lCons (dC (.int 98)) lNil))) saNil))))) [9])) (dBin opMul (dLst (lCons (dC (.str "web")) lNil)) (dC (.int 3))))))))))))))))))
   [.sc ns, .fz (webP n ps), .nil, .nil, .nil, .nil, .nil, .nil, .nil, .nil]) (fun _ => Rs.ok PyData.none = .ok (.bool true)) (fun o => ouR o = .ok (.bool true)) := by
    intro n ps hG
    obtain ⟨ms, hms, hg, hml⟩ := law_marks_den hG (by decide) ns 110 4 (by decide)
    have hms' : d__law_marks [.sc ns, .fz (.int 110), .fz (webP n ps), .fz (.int 4)] = .ok (tupI ms) := hms
    obtain ⟨ms2, hms2, hg2, hml2⟩ := law_marks_den hG (by decide) ns 122 4 (by decide)
    have hms2' : d__law_marks [.sc ns, .fz (.int 122), .fz (webP n ps), .fz (.int 4)] = .ok (tupI ms2) := hms2
    obtain ⟨K0, hK0, hroom⟩ := law_room_den hG (by decide) hg hml
    have hK := hK0.sorted
    generalize sortT K0 = K at hK hroom
    have hKg : ∀ x ∈ K, GoodMarks n ps x ∧ x.length = ms.length := fun x hx => ((hK.2 x).mp hx).good hG hg
    refine wp_seq (wp_set (d := tupI ms) (by simp [hms']) ?_)
    refine wp_seq (wp_set (d := .list (K.map tupI)) (by simp [hroom]) ?_)
    have hKne : K ≠ [] := List.ne_nil_of_mem ((hK.2 ms).mpr .refl)
    have hfl : 0 < (K.length : Int) := by
      have := List.length_pos_iff.mpr hKne
      omega
    have hj0 : 0 ≤ mixZ ns 120 % (K.length : Int) := Int.emod_nonneg _ (by omega)
    have hj1 : mixZ ns 120 % (K.length : Int) < K.length := Int.emod_lt_of_pos _ hfl
    obtain ⟨j, hj⟩ := Int.eq_ofNat_of_zero_le hj0
    have hjl : j < K.length := by omega
    have hget : K[j]? = some K[j] := List.getElem?_eq_getElem hjl
    have hxK := List.getElem_mem hjl
    generalize K[j] = x at hget hxK
    have hget2 : (K.map tupI)[j]? = some (tupI x) := by rw [List.getElem?_map, hget]; rfl
    refine wp_seq (wp_set (d := tupI x) ?_ ?_)
    · simp only [List.set_cons_succ, List.set_cons_zero, dIx_e, bVar_e, List.getElem?_cons_succ, List.getElem?_cons_zero, Rs.bind_ok, dBin_e, dCall_e, saCons_e, saNil_e, bOf_e, dC_e, frzS_f, frzS_s, law_mix_den, dLen_e, lenS_l, List.length_map, opMod_int _ _ hfl, hj, ixS_l, atD_nat, hget2, ofO_some]
    have fin2 : ∀ g : List Int, GoodMarks n ps g → g.length ≤ 4 → W (sSeq (sIf (tCmp cEq (dBin opMod (dCall d__law_mix (saCons (bVar 0) (saCons (bOf (dC (.int 130))) saNil))) (dC (.int 6))) (dC (.int 0)))
  (sSeq (sTg (gT [1, 2, 4]) (dCall d__law_barred (saCons (bVar 0) saNil)))
  (sSet 3 (dCall d__law_room (saCons (bVar 1) (saCons (bVar 2) saNil)))))
  sNx)
  (sSeq (sIf (tNot (tTru (bOf (dCall d__law_is_tree (saCons (bVar 1) saNil)))))
  (sSeq (sSet 8 (dIf (tCmp cEq (dLen (bVar 4)) (dLen (bVar 2))) (dC (.str "tree")) (dC (.str "unlike"))))
  (sRet (dT (tCmp cEq (dLst (lComp (iR1 (dC (.int 3))) (gN 9) tYes (dCall d__law_got (saCons (bVar 9) (saCons (bVar 1) (saCons (bVar 2) (saCons (bVar 4) saNil))))) [9])) (dLst (lCons (dC (.str "tree")) (lCons (dC (.str "tree")) (lCons (dVar 8) lNil))))))))
  sNx)
  (sSeq (sSet 5 (dCall d__law_stiff (saCons (bVar 1) (saCons (bVar 2) saNil))))
  (sSeq (sSet 6 (dCall d__law_parts (saCons (bVar 1) (saCons (bVar 5) (saCons (bVar 2) saNil)))))
  (sSeq (sIf (tOr (tCmp cNe (dCall d__law_got (saCons (bOf (dC (.int 0))) (saCons (bVar 1) (saCons (bVar 2) (saCons (bOf (dTup lNil)) saNil))))) (dVar 5)) (tCmp cNe (dCall d__law_got (saCons (bOf (dC (.int 1))) (saCons (bVar 1) (saCons (bVar 2) (saCons (bOf (dTup lNil)) saNil))))) (dVar 6)))
  (sRet (dC (.bool false)))
  sNx)
  (sSeq (sSet 7 (dCall d__law_got (saCons (bOf (dC (.int 2))) (saCons (bVar 1) (saCons (bVar 2) (saCons (bVar 4) saNil))))))
  (sSeq (sIf (tCmp cNe (dLen (bVar 4)) (dLen (bVar 2)))
  (sRet (dT (tCmp cEq (dVar 7) (dC (.str "unlike")))))
  sNx)
  (sSeq (sIf (tOr (tNot (tTru (bOf (dIsB (bVar 7))))) (tCmp cNe (dVar 7) (dT (tIn (dVar 4) (bVar 3)))))
  (sRet (dC (.bool false)))
  sNx)
  (sSeq (sIf (tCmp cNe (dLst (lComp (iR1 (dC (.int 3))) (gN 9) tYes (dCall d__law_got (saCons (bVar 9) (saCons (bVar 1) (saCons (bOf (dTup (lCons (dC (.int 99)) lNil))) (saCons (bOf (dTup (lCons (dC (.int 98)) lNil))) saNil))))) [9])) (dBin opMul (dLst (lCons (dC (.str "marks")) lNil)) (dC (.int 3))))
  (sRet (dC (.bool false)))
  sNx)
  (sRet (dT (tCmp cEq (dLst (lComp (iR1 (dC (.int 3))) (gN 9) tYes (dCall d__law_got (saCons (bVar 9) (saCons (bOf (dTup (lCons (dC (.int 13)) (lCons (dLst lNil) lNil)))) (saCons (bOf (dTup (lCons (dC (.int 99)) lNil))) (saCons (bOf (dTup (lCons (dC (.int 98)) lNil))) saNil))))) [9])) (dBin opMul (dLst (lCons (dC (.str "web")) lNil)) (dC (.int 3))))))))))))))
     [.sc ns, .fz (webP n ps), .fz (tupI ms), .fz (.list (K.map tupI)), .fz (tupI g), .nil, .nil, .nil, .nil, .nil]) (fun _ => Rs.ok PyData.none = .ok (.bool true)) (fun o => ouR o = .ok (.bool true)) := fun g hgg hgl => by
      refine wp_seq (wp_if (b := decide (mixZ ns 130 % 6 = 0)) (by simp [law_mix_den, opMod_int]) (fun _ => ?_) (fun _ => wp_nx (fin n ps ms g K hG hg hml hgg hgl hK)))
      obtain ⟨x, y, hbd, hbx, hby⟩ := law_barred_den ns
      obtain ⟨K2, hK2, hroom2⟩ := law_room_den bps_good (by decide) hbx (by simp)
      refine wp_seq (wp_tg (d := .tuple [webP 7 bps, tupI [1, 2, x], tupI [1, 2, y]]) (by simp [hbd]) rfl ?_)
      refine wp_set (d := .list ((sortT K2).map tupI)) ?_ (fin 7 bps [1, 2, x] [1, 2, y] (sortT K2) bps_good hbx (by simp) hby (by simp) hK2.sorted)
      simp only [setAll, List.set_cons_succ, List.set_cons_zero, dCall_e, saCons_e, saNil_e, bVar_e, List.getElem?_cons_succ, List.getElem?_cons_zero, Rs.bind_ok, frzS_f, hroom2]
    refine wp_seq (wp_if (b := decide (mixZ ns 121 % 2 = 0)) (by simp [law_mix_den, opMod_int]) (fun _ => ?_) (fun _ => wp_nx ?_))
    · exact wp_set (d := tupI ms2) (by simp [hms2']) (fin2 ms2 hg2 hml2)
    · exact fin2 x (hKg x hxK).1 (by rw [(hKg x hxK).2]; exact hml)
  refine wp_seq (wp_if (b := decide (0 < mixZ ns 100 % 4)) (by simp [law_mix_den, opMod_int]) (fun _ => ?_) (fun _ => wp_nx ?_))
  · exact wp_set (d := webP n2 ps2) (by simp [hweb2]) (mid n2 ps2 hG2)
  · exact mid n1 ps1 (good_mono hG1 (by decide))
end MS

open PySem PySem.W PyProof.Rows in
set_option maxRecDepth 100000 in
set_option maxHeartbeats 0 in
theorem PySem.Challenge.cw_markslide_k20_whole_trees_holds : PySem.Challenge.rw_markslide_k20_whole_trees.Holds := by
  w_on; o_law; k_head; (case hw => w_witness2)
  k_fill
  refine MS.walk (l := PySem.Challenge.rw_markslide_k20_whole_trees) rfl rfl (fun w h Y => PySem.W.kIn_of Y) ?F
  case F =>
    intro w mg fa h KX G hmg
    refine' MS.all_mk KX G hmg MS.law_true ?a0 ?l0 ?c0 ?k0 ?a1 ?l1 ?c1 ?k1 ?a2 ?l2 ?c2 ?k2 ?a3 ?l3 ?c3 ?k3 ?a4 ?l4 ?c4 ?k4 ?a5 ?l5 ?c5 ?k5 ?a6 ?l6 ?c6 ?k6 ?a7 ?l7 ?c7 ?k7 ?a8 ?l8 ?c8 ?k8 ?a9 ?l9 ?c9 ?k9 ?a10 ?l10 ?c10 ?k10 ?a11 ?l11 ?c11 ?k11 ?a12 ?l12 ?c12 ?k12 ?a13 ?l13 ?c13 ?k13 ?a14 ?l14 ?c14 ?k14 ?a15 ?l15 ?c15 ?k15 ?a16 ?l16 ?c16 ?k16 ?a17 ?l17 ?c17 ?k17 ?a18 ?l18 ?c18 ?k18 ?a19 ?l19 ?c19 ?k19 ?a20 ?l20 ?c20 ?k20 ?a21 ?l21 ?c21 ?k21 ?a22 ?l22 ?c22 ?k22 ?a23 ?l23 ?c23 ?k23 ?a24 ?l24 ?c24 ?k24 ?a25 ?l25 ?c25 ?k25 ?a26 ?l26 ?c26 ?k26 ?a27 ?l27 ?c27 ?k27 ?kS ?kC1 ?kC2 ?kC3 ?kC4 ?kC5 ?kC6 ?kO ?gl0 ?z0 ?z1 ?z2 ?z3 ?z4 ?z5 ?z6 ?z7 ?z8 ?z9 ?z10 ?z11 ?z12 ?z13 ?z14
    (case a0 => k_is)
    (case l0 => k_is)
    (case c0 => k_is)
    (case k0 => k_is)
    (case a1 => k_is)
    (case l1 => k_is)
    (case c1 => k_is)
    (case k1 => k_is)
    (case a2 => k_is)
    (case l2 => k_is)
    (case c2 => k_is)
    (case k2 => k_is)
    (case a3 => k_is)
    (case l3 => k_is)
    (case c3 => k_is)
    (case k3 => k_is)
    (case a4 => k_is)
    (case l4 => k_is)
    (case c4 => k_is)
    (case k4 => k_is)
    (case a5 => k_is)
    (case l5 => k_is)
    (case c5 => k_is)
    (case k5 => k_is)
    (case a6 => k_is)
    (case l6 => k_is)
    (case c6 => k_is)
    (case k6 => k_is)
    (case a7 => k_is)
    (case l7 => k_is)
    (case c7 => k_is)
    (case k7 => k_is)
    (case a8 => k_is)
    (case l8 => k_is)
    (case c8 => k_is)
    (case k8 => k_is)
    (case a9 => k_is)
    (case l9 => k_is)
    (case c9 => k_is)
    (case k9 => k_is)
    (case a10 => k_is)
    (case l10 => k_is)
    (case c10 => k_is)
    (case k10 => k_is)
    (case a11 => k_is)
    (case l11 => k_is)
    (case c11 => k_is)
    (case k11 => k_is)
    (case a12 => k_is)
    (case l12 => k_is)
    (case c12 => k_is)
    (case k12 => k_is)
    (case a13 => k_is)
    (case l13 => k_is)
    (case c13 => k_is)
    (case k13 => k_is)
    (case a14 => k_is)
    (case l14 => k_is)
    (case c14 => k_is)
    (case k14 => k_is)
    (case a15 => k_is)
    (case l15 => k_is)
    (case c15 => k_is)
    (case k15 => k_is)
    (case a16 => k_is)
    (case l16 => k_is)
    (case c16 => k_is)
    (case k16 => k_is)
    (case a17 => k_is)
    (case l17 => k_is)
    (case c17 => k_is)
    (case k17 => k_is)
    (case a18 => k_is)
    (case l18 => k_is)
    (case c18 => k_is)
    (case k18 => k_is)
    (case a19 => k_is)
    (case l19 => k_is)
    (case c19 => k_is)
    (case k19 => k_is)
    (case a20 => k_is)
    (case l20 => k_is)
    (case c20 => k_is)
    (case k20 => k_is)
    (case a21 => k_is)
    (case l21 => k_is)
    (case c21 => k_is)
    (case k21 => k_is)
    (case a22 => k_is)
    (case l22 => k_is)
    (case c22 => k_is)
    (case k22 => k_is)
    (case a23 => k_is)
    (case l23 => k_is)
    (case c23 => k_is)
    (case k23 => k_is)
    (case a24 => k_is)
    (case l24 => k_is)
    (case c24 => k_is)
    (case k24 => k_is)
    (case a25 => k_is)
    (case l25 => k_is)
    (case c25 => k_is)
    (case k25 => k_is)
    (case a26 => k_is)
    (case l26 => k_is)
    (case c26 => k_is)
    (case k26 => k_is)
    (case a27 => k_is)
    (case l27 => k_is)
    (case c27 => k_is)
    (case k27 => k_is)
    (case gl0 => k_is)
    (case z0 => k_is)
    (case z1 => k_is)
    (case z2 => k_is)
    (case z3 => k_is)
    (case z4 => k_is)
    (case z5 => k_is)
    (case z6 => k_is)
    (case z7 => k_is)
    (case z8 => k_is)
    (case z9 => k_is)
    (case z10 => k_is)
    (case z11 => k_is)
    (case z12 => k_is)
    (case z13 => k_is)
    (case z14 => k_is)
    (case kS => exact ⟨by k_is, by k_is, by k_is, by k_is, by k_is, by k_is⟩)
    (case kC1 => exact ⟨by k_is, by k_is, by k_exc, by k_is, by k_is, by k_is, by k_is, by k_is, by k_is, by k_is, by k_is, by k_is, by k_is⟩)
    (case kC2 => exact ⟨by k_is, by k_is, by k_exc, by k_is, by k_is, by k_is, by k_is, by k_is, by k_is, by k_is, by k_is, by k_is, by k_is⟩)
    (case kC3 => exact ⟨by k_is, by k_is, by k_exc, by k_is, by k_is, by k_is, by k_is, by k_is, by k_is, by k_is, by k_is, by k_is, by k_is⟩)
    (case kC4 => exact ⟨by k_is, by k_is, by k_exc, by k_is, by k_is, by k_is, by k_is, by k_is, by k_is, by k_is, by k_is, by k_is, by k_is⟩)
    (case kC5 => exact ⟨by k_is, by k_is, by k_exc, by k_is, by k_is, by k_is, by k_is, by k_is, by k_is, by k_is, by k_is, by k_is, by k_is⟩)
    (case kC6 => exact ⟨by k_is, by k_is, by k_exc, by k_is, by k_is, by k_is, by k_is, by k_is, by k_is, by k_is, by k_is, by k_is, by k_is⟩)
    (case kO => intro k k'; cases k <;> cases k' <;> dsimp only [MS.ecF] <;> k_is)
