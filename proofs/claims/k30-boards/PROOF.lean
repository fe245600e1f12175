import PyProof.Rows.All
import Wide.All
import OpenK.AllK
import Wide.FinOn
import PyProof.EqLayable
import KE.SortData
import HandS.ForMost
import HandS.ForExc
import HandS.Deep
import HandS.TupAny
import HandS.Style
import HandS.Conv
import HandS.TupSets
import HandS.Strs
import HandS.DictTup
import HandS.ExcIs
import HandS.IsInst
import HandS.SetFor
import KE.KDictDisplayH
import PySem.Challenge.RW_markslide_k30_whole_boards
set_option Elab.async false
set_option linter.all false
set_option maxRecDepth 100000
set_option maxHeartbeats 4000000
/-! MsSem: what the constructs compute, over plain data (PyData), no heap in sight. -/
namespace MS
open PySem

/-- the kinds of own errors -/
inductive XK where
  | web | marks | slide | unlike | tree | text
  deriving DecidableEq, Repr
/-- a slot: unset, frozen data, an owned list, an owned dict (tuples of ints as keys), an error, the script -/
inductive Sl where
  | nil
  | fz (d : PyData)
  | ow (ds : List PyData)
  | dc (kvs : List (List Int × PyData))
  | ex (k : XK)
  | sc (ns : List Int)
  | bx (a : Addr)
/-- is it a thing of one's own -/
def Sl.own : Sl → Bool
  | .ow _ => true
  | .dc _ => true
  | _ => false
inductive Rs (α : Type) where
  | ok (a : α)
  | er (k : XK)
  | no
def Rs.bind {α β : Type} : Rs α → (α → Rs β) → Rs β
  | .ok a, f => f a
  | .er k, _ => .er k
  | .no, _ => .no
@[simp] theorem Rs.bind_ok {α β : Type} (a : α) (f : α → Rs β) : (Rs.ok a).bind f = f a := rfl
@[simp] theorem Rs.bind_er {α β : Type} (k : XK) (f : α → Rs β) : (Rs.er k : Rs α).bind f = .er k := rfl
@[simp] theorem Rs.bind_no {α β : Type} (f : α → Rs β) : (Rs.no : Rs α).bind f = .no := rfl
abbrev Env := List Sl
abbrev DE := Env → Rs PyData
abbrev DT := Env → Rs Bool
abbrev DB := Env → Rs Sl
abbrev DL := Env → Rs (List PyData)
abbrev DA := Env → Rs (List Sl)
abbrev DF := List Sl → Rs PyData
/-- most items that a list may have here -/
abbrev lim : Nat := 1000000

/-! ### names, constants -/
def dVar (i : Nat) : DE := fun ρ => match ρ[i]? with
  | some (.fz d) => .ok d
  | _ => .no
def bVar (i : Nat) : DB := fun ρ => match ρ[i]? with
  | some .nil => .no
  | some s => .ok s
  | none => .no
def bOf (e : DE) : DB := fun ρ => (e ρ).bind fun d => .ok (.fz d)
def dC (d : PyData) : DE := fun _ => .ok d

/-! ### operators -/
def dBin (op : PyData → PyData → Rs PyData) (a b : DE) : DE := fun ρ => (a ρ).bind fun x => (b ρ).bind fun y => op x y
def opAdd : PyData → PyData → Rs PyData
  | .int i, .int j => .ok (.int (i + j))
  | .tuple xs, .tuple ys => if xs.length + ys.length ≤ lim then .ok (.tuple (xs ++ ys)) else .no
  | .list xs, .list ys => if xs.length + ys.length ≤ lim then .ok (.list (xs ++ ys)) else .no
  | .str x, .str y => if x.length + y.length ≤ lim then .ok (.str (x ++ y)) else .no
  | _, _ => .no
def opSub : PyData → PyData → Rs PyData
  | .int i, .int j => .ok (.int (i - j))
  | _, _ => .no
def opMul : PyData → PyData → Rs PyData
  | .int i, .int j => if (-(2 ^ 64) < i ∧ i < 2 ^ 64) ∨ (-(2 ^ 64) < j ∧ j < 2 ^ 64) then .ok (.int (i * j)) else .no
  | .list xs, .int k => if 0 ≤ k ∧ k < 2 ^ 62 ∧ xs.length * k.toNat ≤ lim then .ok (.list (List.replicate k.toNat xs).flatten) else .no
  | _, _ => .no
def opMod : PyData → PyData → Rs PyData
  | .int i, .int j => if 0 < j then .ok (.int (i % j)) else .no
  | _, _ => .no
def opDiv : PyData → PyData → Rs PyData
  | .int i, .int j => if 0 < j ∧ j < 1073741824 then .ok (.int (i / j)) else .no
  | _, _ => .no

/-! ### comparisons -/
def cEq : PyData → PyData → Rs Bool := fun x y => if SeqAt.shaped x = true ∧ SeqAt.shaped y = true then .ok (PyData.eqv x y) else .no
def cNe : PyData → PyData → Rs Bool := fun x y => if SeqAt.shaped x = true ∧ SeqAt.shaped y = true then .ok (!PyData.eqv x y) else .no
/-- the ints of a list of ints -/
def intsOf : List PyData → Option (List Int)
  | [] => some []
  | .int i :: r => (intsOf r).map (i :: ·)
  | _ :: _ => none
def lexLt : List Int → List Int → Bool
  | [], [] => false
  | [], _ :: _ => true
  | _ :: _, [] => false
  | x :: xs, y :: ys => if x = y then lexLt xs ys else decide (x < y)
def cLt : PyData → PyData → Rs Bool
  | .int i, .int j => .ok (decide (i < j))
  | .tuple xs, .tuple ys => match intsOf xs, intsOf ys with
    | some ns, some ms => .ok (lexLt ns ms)
    | _, _ => .no
  | _, _ => .no
def cLe : PyData → PyData → Rs Bool
  | .int i, .int j => .ok (decide (i ≤ j))
  | _, _ => .no
def cGt : PyData → PyData → Rs Bool
  | .int i, .int j => .ok (decide (j < i))
  | _, _ => .no
def cGe : PyData → PyData → Rs Bool
  | .int i, .int j => .ok (decide (j ≤ i))
  | _, _ => .no
def tCmp (c : PyData → PyData → Rs Bool) (a b : DE) : DT := fun ρ => (a ρ).bind fun x => (b ρ).bind fun y => c x y
/-- a op b op' c -/
def tCh (c1 c2 : PyData → PyData → Rs Bool) (a b c : DE) : DT := fun ρ => (a ρ).bind fun x => (b ρ).bind fun y => (c1 x y).bind fun k => if k = true then (c ρ).bind fun z => c2 y z else .ok false
def tCh3 (c1 c2 c3 : PyData → PyData → Rs Bool) (a b c d : DE) : DT := fun ρ => (a ρ).bind fun x => (b ρ).bind fun y => (c1 x y).bind fun k => if k = true then (c ρ).bind fun z => (c2 y z).bind fun k => if k = true then (d ρ).bind fun u => c3 z u else .ok false else .ok false
def isN : Sl → Rs Bool
  | .fz d => .ok (match d with | .none => true | _ => false)
  | .ex _ => .ok false
  | _ => .no
def tIsN (a : DB) : DT := fun ρ => (a ρ).bind isN
def tNotN (a : DB) : DT := fun ρ => (a ρ).bind fun s => (isN s).bind fun b => .ok (!b)
def flatD : PyData → Bool
  | .none | .bool _ | .int _ | .str _ => true
  | _ => false
def inAny (x : PyData) (ds : List PyData) : Bool := ds.any fun z => PyData.eqv z x
/-- x in s -/
def cIn (x : PyData) : Sl → Rs Bool
  | .fz (.list ds) => if SeqAt.shaped x = true ∧ SeqAt.shaped (.list ds) = true then .ok (inAny x ds) else .no
  | .ow ds => if SeqAt.shaped x = true ∧ SeqAt.shaped (.list ds) = true then .ok (inAny x ds) else .no
  | .fz (.tuple ds) => if flatD x = true ∧ ds.all flatD = true then .ok (inAny x ds) else .no
  | .fz (.str t) => match x with
    | .str s => (match s.cps.toList with
      | [c] => .ok (decide (c ∈ t.cps.toList))
      | _ => .no)
    | _ => .no
  | .dc kvs => match x with
    | .tuple ds => (match intsOf ds with
      | some ns => .ok (kvs.any fun p => decide (p.1 = ns))
      | none => .no)
    | _ => .no
  | _ => .no
def tIn (a : DE) (b : DB) : DT := fun ρ => (a ρ).bind fun x => (b ρ).bind fun s => cIn x s
def tNin (a : DE) (b : DB) : DT := fun ρ => (a ρ).bind fun x => (b ρ).bind fun s => (cIn x s).bind fun k => .ok (!k)

/-! ### tests, truth values -/
def dT (t : DT) : DE := fun ρ => (t ρ).bind fun b => .ok (.bool b)
def tAnd (t u : DT) : DT := fun ρ => (t ρ).bind fun b => if b = true then u ρ else .ok false
def tOr (t u : DT) : DT := fun ρ => (t ρ).bind fun b => if b = true then .ok true else u ρ
def tNot (t : DT) : DT := fun ρ => (t ρ).bind fun b => .ok (!b)
def asB : PyData → Rs Bool
  | .bool b => .ok b
  | _ => .no
def dAnd (a b : DE) : DE := fun ρ => (a ρ).bind fun x => (asB x).bind fun k => if k = true then b ρ else .ok (.bool false)
def dOr (a b : DE) : DE := fun ρ => (a ρ).bind fun x => (asB x).bind fun k => if k = true then .ok (.bool true) else b ρ
def dNot (a : DE) : DE := fun ρ => (a ρ).bind fun x => (asB x).bind fun k => .ok (.bool (!k))
def truS : Sl → Rs Bool
  | .fz .none => .ok false
  | .fz (.bool b) => .ok b
  | .fz (.int i) => .ok (i != 0)
  | .fz (.list ds) => .ok (!ds.isEmpty)
  | .fz (.tuple ds) => .ok (!ds.isEmpty)
  | .ow ds => .ok (!ds.isEmpty)
  | .sc ns => .ok (!ns.isEmpty)
  | _ => .no
def tTru (b : DB) : DT := fun ρ => (b ρ).bind truS
def dIf (t : DT) (a b : DE) : DE := fun ρ => (t ρ).bind fun k => if k = true then a ρ else b ρ

/-! ### displays, subscripts -/
def lNil : DL := fun _ => .ok []
def lCons (a : DE) (r : DL) : DL := fun ρ => (a ρ).bind fun x => (r ρ).bind fun xs => .ok (x :: xs)
def dLst (l : DL) : DE := fun ρ => (l ρ).bind fun ds => .ok (.list ds)
def dTup (l : DL) : DE := fun ρ => (l ρ).bind fun ds => .ok (.tuple ds)
def atD {α : Type} (xs : List α) (i : Int) : Option α := if 0 ≤ i then (if i < xs.length then xs[i.toNat]? else none) else if -(xs.length : Int) ≤ i then xs[(i + xs.length).toNat]? else none
def ofO {α : Type} : Option α → Rs α
  | some a => .ok a
  | none => .no
def ixS : Sl → PyData → Rs PyData
  | .fz (.list ds), .int i => ofO (atD ds i)
  | .fz (.tuple ds), .int i => ofO (atD ds i)
  | .fz (.str s), .int i => if s.length ≤ lim then (ofO (atD s.cps.toList i)).bind fun c => .ok (.str ⟨#[c]⟩) else .no
  | .ow ds, .int i => ofO (atD ds i)
  | .sc ns, .int i => (ofO (atD ns i)).bind fun n => .ok (.int n)
  | _, _ => .no
def dIx (b : DB) (i : DE) : DE := fun ρ => (b ρ).bind fun s => (i ρ).bind fun d => ixS s d
def sIx (n d : Nat) : Option Int → Nat
  | none => d
  | some v => if v < 0 then (v + (n : Int)).toNat else min v.toNat n
def cutD {α : Type} (xs : List α) (lo hi : Option Int) : List α := (xs.drop (sIx xs.length 0 lo)).take (sIx xs.length xs.length hi - sIx xs.length 0 lo)
abbrev DO := Env → Rs (Option Int)
def oN : DO := fun _ => .ok none
def oE (e : DE) : DO := fun ρ => (e ρ).bind fun d => match d with
  | .int i => .ok (some i)
  | _ => .no
def slD (d : PyData) (lo hi : Option Int) : Rs PyData := match d with
  | .list ds => .ok (.list (cutD ds lo hi))
  | .tuple ds => .ok (.tuple (cutD ds lo hi))
  | .str s => if s.length ≤ lim then .ok (.str ⟨(cutD s.cps.toList lo hi).toArray⟩) else .no
  | _ => .no
def dSl (e : DE) (lo hi : DO) : DE := fun ρ => (e ρ).bind fun d => (lo ρ).bind fun l => (hi ρ).bind fun h => slD d l h
def dRev (e : DE) : DE := fun ρ => (e ρ).bind fun d => match d with
  | .list ds => .ok (.list ds.reverse)
  | _ => .no

/-! ### what is walked; targets; comprehensions -/
def itS : Sl → Rs (List PyData)
  | .fz (.list ds) => .ok ds
  | .fz (.tuple ds) => .ok ds
  | .fz (.str s) => if s.length ≤ lim then .ok (s.cps.toList.map fun c => .str ⟨#[c]⟩) else .no
  | .ow ds => .ok ds
  | _ => .no
def iSeq (b : DB) : DL := fun ρ => (b ρ).bind itS
def rngD (lo : Int) (n : Nat) : List PyData := (List.range n).map fun (i : Nat) => PyData.int (lo + (i : Int))
def rng1 : PyData → Rs (List PyData)
  | .int n => if -1000000 ≤ n ∧ n ≤ 1000000 then .ok (rngD 0 n.toNat) else .no
  | _ => .no
def rng2 : PyData → PyData → Rs (List PyData)
  | .int a, .int b => if -1000000 ≤ a ∧ a ≤ 1000000 ∧ -1000000 ≤ b ∧ b ≤ 1000000 then .ok (rngD a (b - a).toNat) else .no
  | _, _ => .no
def iR1 (a : DE) : DL := fun ρ => (a ρ).bind rng1
def iR2 (a b : DE) : DL := fun ρ => (a ρ).bind fun x => (b ρ).bind fun y => rng2 x y
abbrev Tg := PyData → Env → Rs Env
def gN (i : Nat) : Tg := fun d ρ => .ok (ρ.set i (.fz d))
def setAll : List Nat → List PyData → Env → Env
  | i :: is, d :: ds, ρ => setAll is ds (ρ.set i (.fz d))
  | _, _, ρ => ρ
def gT (is : List Nat) : Tg := fun d ρ => match d with
  | .tuple ds => if ds.length = is.length then .ok (setAll is ds ρ) else .no
  | _ => .no
def wipeE (ρ : Env) : List Nat → Env
  | [] => ρ
  | v :: vs => (wipeE ρ vs).set v .nil
def tYes : DT := fun _ => .ok true
def compGo (g : Tg) (t : DT) (e : DE) (ρ : Env) : List PyData → Rs (List PyData)
  | [] => .ok []
  | d :: ds => match g d ρ with
    | .ok ρ1 => (match t ρ1 with
      | .ok true => (match e ρ1 with
        | .ok y => (compGo g t e ρ ds).bind fun ys => .ok (y :: ys)
        | _ => .no)
      | .ok false => compGo g t e ρ ds
      | _ => .no)
    | _ => .no
def lComp (it : DL) (g : Tg) (t : DT) (e : DE) (vs : List Nat) : DL := fun ρ => (it ρ).bind fun ds => if ds.length ≤ lim then compGo g t e (wipeE ρ vs) ds else .no

/-! ### calls -/
def saNil : DA := fun _ => .ok []
def frzS : Sl → Rs Sl
  | .fz d => .ok (.fz d)
  | .ex k => .ok (.ex k)
  | .sc ns => .ok (.sc ns)
  | .bx a => .ok (.bx a)
  | _ => .no
def saCons (b : DB) (r : DA) : DA := fun ρ => (b ρ).bind fun s => (frzS s).bind fun s => (r ρ).bind fun ss => .ok (s :: ss)
def dCall (f : DF) (as : DA) : DE := fun ρ => (as ρ).bind f
def lenS : Sl → Rs PyData
  | .fz (.list ds) => .ok (.int ds.length)
  | .fz (.tuple ds) => .ok (.int ds.length)
  | .fz (.str s) => if s.length ≤ lim then .ok (.int s.length) else .no
  | .ow ds => .ok (.int ds.length)
  | .sc ns => .ok (.int ns.length)
  | _ => .no
def dLen (b : DB) : DE := fun ρ => (b ρ).bind lenS
def boolsOf : List PyData → Option (List Bool)
  | [] => some []
  | .bool b :: r => (boolsOf r).map (b :: ·)
  | _ :: _ => none
def anyD : PyData → Rs PyData
  | .list ds => (ofO (boolsOf ds)).bind fun bs => .ok (.bool (bs.any id))
  | _ => .no
def allD : PyData → Rs PyData
  | .list ds => (ofO (boolsOf ds)).bind fun bs => .ok (.bool (bs.all id))
  | _ => .no
def dAny (e : DE) : DE := fun ρ => (e ρ).bind anyD
def dAll (e : DE) : DE := fun ρ => (e ρ).bind allD
def isTupC : PyData → Bool
  | .tuple (_ :: _) => true
  | _ => false
def isOth : PyData → Bool
  | .none => false
  | .tuple _ => false
  | _ => true
/-- the data may be sorted -/
def sortOk (ds : List PyData) : Bool := (ds.all fun d => ds.all fun d' => W.alike d d') && ((decide (ds.length ≤ 1) && ds.all fun d => match d with | .none => false | _ => true) || ds.all isTupC || ds.all isOth) && ds.all fun d => decide (d.depth ≤ 20)
def sortD (ds : List PyData) : Rs (List PyData) := if ds.length ≤ lim ∧ sortOk ds = true then .ok (ds.mergeSort (W.dataLe false id)) else .no
def sortS : Sl → Rs (List PyData)
  | .fz (.list ds) => sortD ds
  | .fz (.tuple ds) => sortD ds
  | .ow ds => sortD ds
  | .dc kvs => sortD (kvs.map fun p => .tuple (p.1.map .int))
  | _ => .no
def lSorted (b : DB) : DL := fun ρ => (b ρ).bind sortS
/-- rising, none twice: sorted(set(..)) of ints, of pairs of ints -/
def insI (x : Int) : List Int → List Int
  | [] => [x]
  | y :: r => if x < y then x :: y :: r else if x = y then y :: r else y :: insI x r
def upI (ns : List Int) : List Int := ns.foldr insI []
def insP (x : Int × Int) : List (Int × Int) → List (Int × Int)
  | [] => [x]
  | y :: r => if x.1 < y.1 ∨ x.1 = y.1 ∧ x.2 < y.2 then x :: y :: r else if x = y then y :: r else y :: insP x r
def upP (ps : List (Int × Int)) : List (Int × Int) := ps.foldr insP []
def pairOf : PyData → Option (Int × Int)
  | .tuple [.int a, .int b] => some (a, b)
  | _ => none
def pairsOf : List PyData → Option (List (Int × Int))
  | [] => some []
  | d :: r => match pairOf d, pairsOf r with
    | some p, some ps => some (p :: ps)
    | _, _ => none
def prD (p : Int × Int) : PyData := .tuple [.int p.1, .int p.2]
/-- sorted(set(xs)), xs ints -/
def ssetI : PyData → Rs (List PyData)
  | .tuple ds => (ofO (intsOf ds)).bind fun ns => if ns.length < 60 then .ok ((upI ns).map .int) else .no
  | _ => .no
/-- sorted(set(xs)), xs pairs of small ints -/
def ssetP : PyData → Rs (List PyData)
  | .list ds => (ofO (pairsOf ds)).bind fun ps => if ps.length < 60 ∧ ps.all (fun p => decide (0 ≤ p.1 ∧ p.1 < 64 ∧ 0 ≤ p.2 ∧ p.2 < 64)) = true then .ok ((upP ps).map prD) else .no
  | _ => .no
def lSSI (e : DE) : DL := fun ρ => (e ρ).bind ssetI
def lSSP (e : DE) : DL := fun ρ => (e ρ).bind ssetP
def lsetI : PyData → Rs PyData
  | .list ds => (ofO (intsOf ds)).bind fun ns => if ns.length < 4000 then .ok (.int (upI ns).length) else .no
  | _ => .no
/-- len(set(xs)), xs a list of ints -/
def dLenSet (e : DE) : DE := fun ρ => (e ρ).bind lsetI
def listD : Sl → Rs (List PyData)
  | .fz (.list ds) => .ok ds
  | .fz (.tuple ds) => .ok ds
  | .ow ds => .ok ds
  | _ => .no
/-- list(x) -/
def lList (b : DB) : DL := fun ρ => (b ρ).bind listD
/-- tuple(xs) -/
def tupD : PyData → Rs PyData
  | .list ds => .ok (.tuple ds)
  | .tuple ds => .ok (.tuple ds)
  | _ => .no
def dTuple (e : DE) : DE := fun ρ => (e ρ).bind tupD

/-! rising lists -/
theorem pw_unique {α : Type} {lt : α → α → Prop} (asym : ∀ a b, lt a b → lt b a → False) : ∀ {l m : List α}, l.Pairwise lt → m.Pairwise lt → (∀ x, x ∈ l ↔ x ∈ m) → l = m
  | [], [], _, _, _ => rfl
  | [], b :: m, _, _, h => absurd ((h b).mpr List.mem_cons_self) (by simp)
  | a :: l, [], _, _, h => absurd ((h a).mp List.mem_cons_self) (by simp)
  | a :: l, b :: m, hl, hm, h => by
    rw [List.pairwise_cons] at hl hm
    have e : a = b := by
      rcases List.mem_cons.mp ((h a).mp List.mem_cons_self) with q | q
      · exact q
      · rcases List.mem_cons.mp ((h b).mpr List.mem_cons_self) with r | r
        · exact r.symm
        · exact (asym _ _ (hl.1 b r) (hm.1 a q)).elim
    subst e
    rw [pw_unique asym hl.2 hm.2 fun x => ⟨fun q => ?_, fun q => ?_⟩]
    · rcases List.mem_cons.mp ((h x).mp (List.mem_cons_of_mem _ q)) with r | r
      · subst r; exact (asym _ _ (hl.1 _ q) (hl.1 _ q)).elim
      · exact r
    · rcases List.mem_cons.mp ((h x).mpr (List.mem_cons_of_mem _ q)) with r | r
      · subst r; exact (asym _ _ (hm.1 _ q) (hm.1 _ q)).elim
      · exact r
theorem insI_mem {x k : Int} : ∀ {l : List Int}, k ∈ insI x l ↔ k = x ∨ k ∈ l
  | [] => by simp [insI]
  | y :: r => by
    unfold insI
    split
    · simp
    · split
      · rename_i h; subst h; simp
      · rw [List.mem_cons, insI_mem, List.mem_cons]
        constructor
        · rintro (h | h | h) <;> simp [h]
        · rintro (h | h | h) <;> simp [h]
theorem insI_up {x : Int} : ∀ {l : List Int}, l.Pairwise (· < ·) → (insI x l).Pairwise (· < ·)
  | [], _ => by simp [insI]
  | y :: r, h => by
    unfold insI
    have h' := List.pairwise_cons.mp h
    split
    · rename_i q
      refine List.pairwise_cons.mpr ⟨fun z hz => ?_, h⟩
      rcases List.mem_cons.mp hz with e | e
      · subst e; exact q
      · exact Int.lt_trans q (h'.1 z e)
    · split
      · exact h
      · rename_i q1 q2
        refine List.pairwise_cons.mpr ⟨fun z hz => ?_, insI_up h'.2⟩
        rcases insI_mem.mp hz with e | e
        · subst e; omega
        · exact h'.1 z e
theorem upI_mem {k : Int} : ∀ {l : List Int}, k ∈ upI l ↔ k ∈ l
  | [] => Iff.rfl
  | x :: l => by
    show k ∈ insI x (upI l) ↔ _
    rw [insI_mem, upI_mem, List.mem_cons]
theorem upI_up : ∀ l : List Int, (upI l).Pairwise (· < ·)
  | [] => List.Pairwise.nil
  | x :: l => insI_up (upI_up l)
abbrev ltP (p q : Int × Int) : Prop := p.1 < q.1 ∨ p.1 = q.1 ∧ p.2 < q.2
theorem insP_mem {x k : Int × Int} : ∀ {l : List (Int × Int)}, k ∈ insP x l ↔ k = x ∨ k ∈ l
  | [] => by simp [insP]
  | y :: r => by
    unfold insP
    split
    · simp
    · split
      · rename_i h; subst h; simp
      · rw [List.mem_cons, insP_mem, List.mem_cons]
        constructor
        · rintro (h | h | h) <;> simp [h]
        · rintro (h | h | h) <;> simp [h]
theorem insP_up {x : Int × Int} : ∀ {l : List (Int × Int)}, l.Pairwise ltP → (insP x l).Pairwise ltP
  | [], _ => by simp [insP]
  | y :: r, h => by
    unfold insP
    have h' := List.pairwise_cons.mp h
    split
    · rename_i q
      refine List.pairwise_cons.mpr ⟨fun z hz => ?_, h⟩
      rcases List.mem_cons.mp hz with e | e
      · subst e; exact q
      · have := h'.1 z e
        unfold ltP at this ⊢
        omega
    · split
      · exact h
      · rename_i q1 q2
        refine List.pairwise_cons.mpr ⟨fun z hz => ?_, insP_up h'.2⟩
        rcases insP_mem.mp hz with e | e
        · subst e
          have : ¬ (z.1 = y.1 ∧ z.2 = y.2) := fun w => q2 (Prod.ext w.1 w.2)
          unfold ltP
          omega
        · exact h'.1 z e
theorem upP_mem {k : Int × Int} : ∀ {l : List (Int × Int)}, k ∈ upP l ↔ k ∈ l
  | [] => Iff.rfl
  | x :: l => by
    show k ∈ insP x (upP l) ↔ _
    rw [insP_mem, upP_mem, List.mem_cons]
theorem upP_up : ∀ l : List (Int × Int), (upP l).Pairwise ltP
  | [] => List.Pairwise.nil
  | x :: l => insP_up (upP_up l)
theorem ltP_asym (a b : Int × Int) (h : ltP a b) (h' : ltP b a) : False := by
  unfold ltP at h h'
  omega

/-! ### statements -/
inductive Ou where
  | nx (ρ : Env)
  | rt (d : PyData)
  | bk (ρ : Env)
  | ct (ρ : Env)
  | er (k : XK) (ρ : Env)
  | no
abbrev DS := Env → Ou
def bE {α : Type} (r : Rs α) (ρ : Env) (f : α → Ou) : Ou := match r with
  | .ok a => f a
  | .er k => .er k ρ
  | .no => .no
@[simp] theorem bE_ok {α : Type} (a : α) (ρ : Env) (f : α → Ou) : bE (.ok a) ρ f = f a := rfl
@[simp] theorem bE_er {α : Type} (k : XK) (ρ : Env) (f : α → Ou) : bE (.er k : Rs α) ρ f = .er k ρ := rfl
@[simp] theorem bE_no {α : Type} (ρ : Env) (f : α → Ou) : bE (.no : Rs α) ρ f = .no := rfl
def sNx : DS := fun ρ => .nx ρ
def sSeq (f g : DS) : DS := fun ρ => match f ρ with
  | .nx ρ' => g ρ'
  | o => o
def sSet (i : Nat) (e : DE) : DS := fun ρ => bE (e ρ) ρ fun d => .nx (ρ.set i (.fz d))
/-- an owned list comes to slot i -/
def sOwn (i : Nat) (l : DL) : DS := fun ρ => bE (l ρ) ρ fun ds => .nx (ρ.set i (.ow ds))
def sTg (g : Tg) (e : DE) : DS := fun ρ => bE (e ρ) ρ fun d => bE (g d ρ) ρ fun ρ' => .nx ρ'
def sExpr (e : DE) : DS := fun ρ => bE (e ρ) ρ fun _ => .nx ρ
def sRet (e : DE) : DS := fun ρ => bE (e ρ) ρ fun d => .rt d
def sIf (t : DT) (f g : DS) : DS := fun ρ => bE (t ρ) ρ fun b => if b = true then f ρ else g ρ
/-- x.append(e), x owned -/
def sApp (i : Nat) (e : DE) : DS := fun ρ => match ρ[i]? with
  | some (.ow ds) => bE (e ρ) ρ fun d => if ds.length < lim then .nx (ρ.set i (.ow (ds ++ [d]))) else .no
  | _ => .no
/-- x.extend(l), l a new list -/
def sExt (i : Nat) (l : DL) : DS := fun ρ => match ρ[i]? with
  | some (.ow ds) => bE (l ρ) ρ fun es => if ds.length + es.length ≤ lim then .nx (ρ.set i (.ow (ds ++ es))) else .no
  | _ => .no
/-- y = x.pop(), x owned -/
def sPop (j i : Nat) : DS := fun ρ => match ρ[i]? with
  | some (.ow ds) => (match ds.getLast? with
    | some d => .nx ((ρ.set i (.ow ds.dropLast)).set j (.fz d))
    | none => .no)
  | _ => .no
/-- from here on slot i is frozen -/
def sFrz (i : Nat) : DS := fun ρ => match ρ[i]? with
  | some (.ow ds) => .nx (ρ.set i (.fz (.list ds)))
  | _ => .nx ρ
def loopGo (g : Tg) (b : DS) : List PyData → Env → Ou
  | [], ρ => .nx ρ
  | d :: ds, ρ => bE (g d ρ) ρ fun ρ1 => match b ρ1 with
    | .nx ρ2 => loopGo g b ds ρ2
    | .ct ρ2 => loopGo g b ds ρ2
    | .bk ρ2 => .nx ρ2
    | o => o
def sFor (it : DL) (g : Tg) (b : DS) : DS := fun ρ => bE (it ρ) ρ fun ds => loopGo g b ds ρ
def sWhile (t : DT) (b : DS) : Nat → DS
  | 0, _ => .no
  | n + 1, ρ => bE (t ρ) ρ fun k => if k = true then (match b ρ with
    | .nx ρ2 => sWhile t b n ρ2
    | .ct ρ2 => sWhile t b n ρ2
    | .bk ρ2 => .nx ρ2
    | o => o) else .nx ρ
def sRaise (k : XK) : DS := fun ρ => .er k ρ
/-- try: b except (the kinds in ks) as n: m = n -/
def sTry (b : DS) (ks : XK → Bool) (n m : Nat) : DS := fun ρ => match b ρ with
  | .er k ρ' => if ks k = true then (if n < ρ'.length then .nx ((ρ'.set n .nil).set m (.ex k)) else .no) else .er k ρ'
  | o => o
/-- {k: v}, an owned dict; d[k] = v; d[k]; d.get(k) -/
def putT (kvs : List (List Int × PyData)) (k : List Int) (v : PyData) : List (List Int × PyData) :=
  if (kvs.any fun p => decide (p.1 = k)) = true then kvs.map (fun p => if p.1 = k then (p.1, v) else p) else kvs ++ [(k, v)]
def tkey : PyData → Rs (List Int)
  | .tuple ds => ofO (intsOf ds)
  | _ => .no
def sDic (i : Nat) : DS := fun ρ => .nx (ρ.set i (.dc []))
def sDput (i : Nat) (k v : DE) : DS := fun ρ => match ρ[i]? with
  | some (.dc kvs) => bE (v ρ) ρ fun y => bE (k ρ) ρ fun x => bE (tkey x) ρ fun ns => if kvs.length < lim then .nx (ρ.set i (.dc (putT kvs ns y))) else .no
  | _ => .no
def sDic1 (i : Nat) (k v : DE) : DS := fun ρ => bE (k ρ) ρ fun x => bE (v ρ) ρ fun y => bE (tkey x) ρ fun ns => .nx (ρ.set i (.dc [(ns, y)]))
def getT (kvs : List (List Int × PyData)) (k : List Int) : Option PyData := match kvs with
  | [] => none
  | p :: r => if p.1 = k then some p.2 else getT r k
def dDget (i : Nat) (k : DE) : DE := fun ρ => match ρ[i]? with
  | some (.dc kvs) => (k ρ).bind fun x => (tkey x).bind fun ns => ofO (getT kvs ns)
  | _ => .no
def dDgetN (i : Nat) (k : DE) : DE := fun ρ => match ρ[i]? with
  | some (.dc kvs) => (k ρ).bind fun x => (tkey x).bind fun ns => .ok ((getT kvs ns).getD .none)
  | _ => .no
/-- the turns that a while may take -/
def fuel : Nat := 100000
def ksAll : XK → Bool := fun _ => true
def ksMW : XK → Bool := fun k => match k with
  | .web => true
  | .marks => true
  | _ => false
/-- what a def computes -/
def runD (b : DS) (n : Nat) (as : List Sl) : Rs PyData := match b (as ++ List.replicate (n - as.length) .nil) with
  | .nx _ => .ok .none
  | .rt d => .ok d
  | .er k _ => .er k
  | _ => .no
def kName : XK → Str
  | .web => "web"
  | .marks => "marks"
  | .slide => "slide"
  | .unlike => "unlike"
  | .tree => "tree"
  | .text => "text"
/-- what stands beside i, in the lines' turn -/
def besideL (i : Int) : List (Int × Int) → List Int
  | [] => []
  | (a, b) :: r => (if a = i then [b] else []) ++ (if b = i then [a] else []) ++ besideL i r
def sortZ (ns : List Int) : List Int := ns.mergeSort fun a b => decide (a ≤ b)
def nearD (n : Nat) (ps : List (Int × Int)) : PyData := .list ((List.range n).map fun (i : Nat) => .list ((sortZ (besideL i ps)).map .int))
def dIsB (b : DB) : DE := fun ρ => (b ρ).bind fun s => match s with
  | .fz (.bool _) => .ok (.bool true)
  | .fz (.str _) => .ok (.bool false)
  | .fz (.list _) => .ok (.bool false)
  | .fz (.tuple _) => .ok (.bool false)
  | _ => .no
/-- isinstance(e, C), C the k's class; isinstance(e, ValueError) -/
def dIsK (k : XK) (b : DB) : DE := fun ρ => (b ρ).bind fun s => match s with
  | .ex k' => .ok (.bool (decide (k' = k)))
  | _ => .no
def dIsV (b : DB) : DE := fun ρ => (b ρ).bind fun s => match s with
  | .ex _ => .ok (.bool true)
  | _ => .no
/-- l.count(x), l.index(x) -/
def cntD (ds : List PyData) (d : PyData) : Rs PyData := if SeqAt.shaped d = true ∧ SeqAt.shaped (.list ds) = true then .ok (.int (ds.countP fun z => PyData.eqv z d)) else .no
def idxD (ds : List PyData) (d : PyData) : Rs PyData := if SeqAt.shaped d = true ∧ SeqAt.shaped (.list ds) = true then (ofO (ds.findIdx? fun z => PyData.eqv z d)).bind fun i => .ok (.int i) else .no
def dCnt (a b : DE) : DE := fun ρ => (a ρ).bind fun l => match l with
  | .list ds => (b ρ).bind fun d => cntD ds d
  | _ => .no
def dIdx (a b : DE) : DE := fun ρ => (a ρ).bind fun l => match l with
  | .list ds => (b ρ).bind fun d => idxD ds d
  | _ => .no
/-- the first two statements of near: the lists of what stands beside each spot -/
def addAt (dss : List (List Int)) (i : Nat) (x : Int) : List (List Int) := dss.set i (dss.getD i [] ++ [x])
def nearGo : List (Int × Int) → List (List Int) → List (List Int)
  | [], dss => dss
  | (a, b) :: r, dss => nearGo r (addAt (addAt dss a.toNat b) b.toNat a)
def sNear (iw iF i1 i2 : Nat) : DS := fun ρ => match ρ[iw]? with
  | some (.fz (.tuple [.int n, .list ls])) => (match pairsOf ls with
    | some ps => if (0 ≤ n ∧ n ≤ 1000 ∧ ps.length ≤ 1000 ∧ ps.all (fun p => decide (0 ≤ p.1 ∧ p.1 < n ∧ 0 ≤ p.2 ∧ p.2 < n)) = true) ∧ ρ.all (fun s => !s.own) = true ∧ iF < ρ.length ∧ i1 < ρ.length ∧ i2 < ρ.length then
        .nx (((ρ.set i1 .nil).set i2 .nil).set iF (.fz (.list ((nearGo ps (List.replicate n.toNat [])).map fun ns => .list (ns.map .int))))) else .no
    | none => .no)
  | _ => .no
end MS

/-! MsLayA: plain data in the abstract heap; the slots' relation; the judgements. -/
namespace MS
open PySem L2 PyProof.Rows

theorem lim_lt {n : Nat} (h : n ≤ lim) : n < sizeLine := Nat.lt_of_le_of_lt h (by decide)
theorem lim_le {n : Nat} (h : n ≤ lim) : n ≤ sizeLine := Nat.le_of_lt (lim_lt h)

/-! ### data at a value, within the frozen part -/
mutual
inductive Dt (B : Hp) : V → PyData → Prop
  | non : Dt B .non .none
  | bl (b : Bool) : Dt B (.bl b) (.bool b)
  | int (i : Int) : Dt B (.int i) (.int i)
  | str (x : Str) : Dt B (.str x) (.str x)
  | lst {a : Addr} {xs : List V} {ds : List PyData} : B a = some (.lst xs) → DtAll B xs ds → Dt B (.ref a) (.list ds)
  | tup {a : Addr} {xs : List V} {ds : List PyData} : B a = some (.tup xs) → DtAll B xs ds → Dt B (.ref a) (.tuple ds)
inductive DtAll (B : Hp) : List V → List PyData → Prop
  | nil : DtAll B [] []
  | cons {v : V} {vs : List V} {d : PyData} {ds : List PyData} : Dt B v d → DtAll B vs ds → DtAll B (v :: vs) (d :: ds)
end
section
variable {B B' : Hp}
mutual
theorem Dt.mono (e : Same B B') : ∀ {v : V} (d : PyData), Dt B v d → Dt B' v d
  | _, .none, h => by cases h; exact .non
  | _, .bool _, h => by cases h; exact .bl _
  | _, .int _, h => by cases h; exact .int _
  | _, .str _, h => by cases h; exact .str _
  | _, .list ds, h => by
    cases h with
    | lst h1 h2 => exact .lst (e _ _ h1) (DtAll.mono e ds h2)
  | _, .tuple ds, h => by
    cases h with
    | tup h1 h2 => exact .tup (e _ _ h1) (DtAll.mono e ds h2)
  | _, .dict _, h => by cases h
theorem DtAll.mono (e : Same B B') : ∀ {vs : List V} (ds : List PyData), DtAll B vs ds → DtAll B' vs ds
  | _, [], h => by cases h; exact .nil
  | _, d :: ds, h => by
    cases h with
    | cons h1 h2 => exact .cons (Dt.mono e d h1) (DtAll.mono e ds h2)
end
end
theorem Dt.on {B B' : Hp} {v : V} {d : PyData} (h : Dt B v d) (e : Same B B') : Dt B' v d := Dt.mono e d h
theorem DtAll.on {B B' : Hp} {vs : List V} {ds : List PyData} (h : DtAll B vs ds) (e : Same B B') : DtAll B' vs ds := DtAll.mono e ds h
mutual
theorem Dt.dp {K : PySem.W.Frag} {B : Hp} : ∀ {v : V} (d : PyData), Dt B v d → Dp K B v d
  | _, .none, h => by cases h; exact .non
  | _, .bool _, h => by cases h; exact .bl _
  | _, .int _, h => by cases h; exact .int _
  | _, .str _, h => by cases h; exact .str _
  | _, .list ds, h => by
    cases h with
    | lst h1 h2 => exact .lst (SqL.of h1) (DtAll.dp ds h2)
  | _, .tuple ds, h => by
    cases h with
    | tup h1 h2 => exact .tup (SqT.of h1) (DtAll.dp ds h2)
  | _, .dict _, h => by cases h
theorem DtAll.dp {K : PySem.W.Frag} {B : Hp} : ∀ {vs : List V} (ds : List PyData), DtAll B vs ds → DpAll K B vs ds
  | _, [], h => by cases h; exact .nil
  | _, d :: ds, h => by
    cases h with
    | cons h1 h2 => exact .cons (Dt.dp d h1) (DtAll.dp ds h2)
end
theorem DtAll.len {B : Hp} : ∀ {vs : List V} {ds : List PyData}, DtAll B vs ds → vs.length = ds.length
  | _, [], h => by cases h; rfl
  | _, d :: ds, h => by
    cases h with
    | cons h1 h2 => rw [List.length_cons, List.length_cons, DtAll.len h2]
theorem DtAll.app {B : Hp} : ∀ {vs us : List V} {ds es : List PyData}, DtAll B vs ds → DtAll B us es → DtAll B (vs ++ us) (ds ++ es)
  | _, _, [], _, h, k => by cases h; exact k
  | _, _, d :: ds, _, h, k => by
    cases h with
    | cons h1 h2 => exact .cons h1 (DtAll.app h2 k)
theorem DtAll.one {B : Hp} {v : V} {d : PyData} (h : Dt B v d) : DtAll B [v] [d] := .cons h .nil
theorem DtAll.get {B : Hp} : ∀ {vs : List V} {ds : List PyData} {i : Nat} {v : V}, DtAll B vs ds → vs[i]? = some v → ∃ d, ds[i]? = some d ∧ Dt B v d
  | _, [], i, v, h, e => by cases h; simp at e
  | _, d :: ds, 0, v, h, e => by
    cases h with
    | cons h1 h2 => simp at e; subst e; exact ⟨d, rfl, h1⟩
  | _, d :: ds, i + 1, v, h, e => by
    cases h with
    | cons h1 h2 => exact DtAll.get (i := i) h2 (by simpa using e)
theorem DtAll.getD {B : Hp} : ∀ {vs : List V} {ds : List PyData} {i : Nat} {d : PyData}, DtAll B vs ds → ds[i]? = some d → ∃ v, vs[i]? = some v ∧ Dt B v d
  | _, [], i, d, h, e => by simp at e
  | _, d' :: ds, 0, d, h, e => by
    cases h with
    | cons h1 h2 => simp at e; subst e; exact ⟨_, rfl, h1⟩
  | _, d' :: ds, i + 1, d, h, e => by
    cases h with
    | cons h1 h2 => exact DtAll.getD (i := i) h2 (by simpa using e)
theorem DtAll.drop {B : Hp} : ∀ {vs : List V} {ds : List PyData} (n : Nat), DtAll B vs ds → DtAll B (vs.drop n) (ds.drop n)
  | _, _, 0, h => h
  | _, [], n + 1, h => by cases h; exact .nil
  | _, d :: ds, n + 1, h => by
    cases h with
    | cons h1 h2 => exact DtAll.drop n h2
theorem DtAll.take {B : Hp} : ∀ {vs : List V} {ds : List PyData} (n : Nat), DtAll B vs ds → DtAll B (vs.take n) (ds.take n)
  | _, _, 0, h => .nil
  | _, [], n + 1, h => by cases h; exact .nil
  | _, d :: ds, n + 1, h => by
    cases h with
    | cons h1 h2 => exact .cons h1 (DtAll.take n h2)
theorem DtAll.rev {B : Hp} {vs : List V} {ds : List PyData} (h : DtAll B vs ds) : DtAll B vs.reverse ds.reverse := by
  induction ds generalizing vs with
  | nil => cases h; exact .nil
  | cons d ds ih =>
    cases h with
    | cons h1 h2 =>
      rw [List.reverse_cons, List.reverse_cons]
      exact DtAll.app (ih h2) (.one h1)
theorem DtAll.rep {B : Hp} {vs : List V} {ds : List PyData} (h : DtAll B vs ds) : ∀ k : Nat, DtAll B (List.replicate k vs).flatten (List.replicate k ds).flatten
  | 0 => .nil
  | k + 1 => by
    rw [List.replicate_succ, List.replicate_succ, List.flatten_cons, List.flatten_cons]
    exact DtAll.app h (DtAll.rep h k)
theorem DtAll.init {B : Hp} {vs : List V} {ds : List PyData} (h : DtAll B vs ds) : DtAll B vs.dropLast ds.dropLast := by
  rw [List.dropLast_eq_take, List.dropLast_eq_take, h.len]
  exact h.take _
theorem DtAll.ints {B : Hp} : ∀ {vs : List V} {ds : List PyData} {ns : List Int}, DtAll B vs ds → intsOf ds = some ns → vs = ns.map V.int
  | _, [], ns, h, e => by
    cases h
    have e' : ([] : List Int) = ns := Option.some.inj e
    subst e'; rfl
  | _, d :: ds, ns, h, e => by
    cases h with
    | cons h1 h2 =>
      cases d with
      | int i =>
        have e' : (intsOf ds).map (i :: ·) = some ns := e
        cases q : intsOf ds with
        | none => rw [q] at e'; simp at e'
        | some ms =>
          rw [q] at e'
          have e2 : i :: ms = ns := by simpa using e'
          subst e2
          cases h1
          rw [List.map_cons, ← DtAll.ints h2 q]
      | _ => simp [intsOf] at e
theorem DtAll.of_ints {B : Hp} : ∀ ns : List Int, DtAll B (ns.map V.int) (ns.map PyData.int)
  | [] => .nil
  | n :: ns => .cons (.int n) (DtAll.of_ints ns)
theorem DtAll.bools {B : Hp} : ∀ {vs : List V} {ds : List PyData} {bs : List Bool}, DtAll B vs ds → boolsOf ds = some bs → vs = bs.map V.bl
  | _, [], bs, h, e => by
    cases h
    have e' : ([] : List Bool) = bs := Option.some.inj e
    subst e'; rfl
  | _, d :: ds, ns, h, e => by
    cases h with
    | cons h1 h2 =>
      cases d with
      | bool i =>
        have e' : (boolsOf ds).map (i :: ·) = some ns := e
        cases q : boolsOf ds with
        | none => rw [q] at e'; simp at e'
        | some ms =>
          rw [q] at e'
          have e2 : i :: ms = ns := by simpa using e'
          subst e2
          cases h1
          rw [List.map_cons, ← DtAll.bools h2 q]
      | _ => simp [boolsOf] at e
theorem intsOf_map : ∀ ns : List Int, intsOf (ns.map .int) = some ns
  | [] => rfl
  | n :: ns => by
    show (intsOf (ns.map .int)).map (n :: ·) = _
    rw [intsOf_map ns]; rfl
theorem intsOf_eq : ∀ {ds : List PyData} {ns : List Int}, intsOf ds = some ns → ds = ns.map .int
  | [], ns, e => by
    have e' : ([] : List Int) = ns := Option.some.inj e
    subst e'; rfl
  | d :: ds, ns, e => by
    cases d with
    | int i =>
      have e' : (intsOf ds).map (i :: ·) = some ns := e
      cases q : intsOf ds with
      | none => rw [q] at e'; simp at e'
      | some ms =>
        rw [q] at e'
        have e2 : i :: ms = ns := by simpa using e'
        subst e2
        rw [List.map_cons, ← intsOf_eq q]
    | _ => simp [intsOf] at e

/-! ### frozen part and heap, extended -/
structure Ext (B H B' H' : Hp) : Prop where
  b : Same B B'
  h : Same H H'
  s : Same B' H'
  n : ∀ a o, B' a = some o → B a = some o ∨ H a = none ∨ (H a = some o ∧ ∃ xs, o = .tup xs)
theorem Ext.refl {B H : Hp} (s : Same B H) : Ext B H B H := ⟨Same.refl _, Same.refl _, s, fun _ _ e => .inl e⟩
theorem Ext.trans {B H B1 H1 B2 H2 : Hp} (x : Ext B H B1 H1) (y : Ext B1 H1 B2 H2) : Ext B H B2 H2 :=
  ⟨x.b.trans y.b, x.h.trans y.h, y.s, fun a o e => by
    rcases y.n a o e with q | q | ⟨q, xs, rfl⟩
    · exact x.n a o q
    · exact .inr (.inl (x.h.free q))
    · cases z : H a with
      | none => exact .inr (.inl rfl)
      | some u =>
        have z2 := x.h _ _ z
        rw [q] at z2
        exact .inr (.inr ⟨by rw [← Option.some.inj z2], xs, rfl⟩)⟩
theorem same_new {H : Hp} {p : Addr} {o : HO} (h : H p = none) : Same H (upd H p o) := fun a u e => by
  rw [upd_ne (ne_of_none e h)]
  exact e
/-- a new object, frozen -/
theorem Ext.new {B H : Hp} {p : Addr} {o : HO} (s : Same B H) (h : H p = none) : Ext B H (upd B p o) (upd H p o) :=
  ⟨same_new (s.free h), same_new h, fun a u e => by
    by_cases q : a = p
    · subst q; rw [upd_same] at e ⊢; exact e
    · rw [upd_ne q] at e ⊢; exact s _ _ e, fun a u e => by
    by_cases q : a = p
    · subst q; exact .inr (.inl h)
    · rw [upd_ne q] at e; exact .inl e⟩
/-- a new object, not frozen -/
theorem Ext.raw {B H : Hp} {p : Addr} {o : HO} (s : Same B H) (h : H p = none) : Ext B H B (upd H p o) :=
  ⟨Same.refl _, same_new h, s.trans (same_new h), fun _ _ e => .inl e⟩

/-! ### slots -/
structure Cc where
  G : Hp
  B0 : Hp
  W : WX
  ec : XK → Addr
/-- an error's object, of the class at C, without a dict of its own -/
def exO (a C : Addr) : HO := .ext fun h => ∃ oe vs, h.get? a = some oe ∧ oe.cls = .ref C ∧ oe.dict = none ∧ oe.data = .fields vs
def SlA (K : PySem.W.Frag) (ec : XK → Addr) (B : Hp) (v : V) : Sl → Prop
  | .fz d => Dt B v d
  | .ex k => ∃ a, v = .ref a ∧ B a = some (exO a (ec k))
  | .sc ns => ∃ a, v = .ref a ∧ SqL K B a (ns.map V.int)
  | .bx a => v = .ref a
  | _ => False
/-- the keys' tuples, the values' data -/
def KvT (B : Hp) : List (List Key × V) → List (List Int × PyData) → Prop := Paired fun p q => p.1 = q.1.map Sum.inl ∧ Dt B p.2 q.2
def SlV (K : PySem.W.Frag) (C : Cc) (B H : Hp) (v : V) : Sl → Prop
  | .ow ds => ∃ a xs, v = .ref a ∧ H a = some (.lst xs) ∧ B a = none ∧ C.G a = none ∧ DtAll B xs ds
  | .dc kvs => ∃ a ks, v = .ref a ∧ H a = some (.dT ks) ∧ B a = none ∧ C.G a = none ∧ KvT B ks kvs
  | s => SlA K C.ec B v s
structure RelS (K : PySem.W.Frag) (C : Cc) (B H : Hp) (σ : L2.St) (ρ : Env) : Prop where
  len : σ.length = ρ.length
  at' : ∀ (i : Nat) (s : Sl), ρ[i]? = some s → s ≠ .nil → ∃ v, σ[i]? = some (some v) ∧ SlV K C B H v s
  sep : ∀ (i j : Nat) (s t : Sl) (v : V), i ≠ j → ρ[i]? = some s → ρ[j]? = some t → s.own = true → t.own = true → σ[i]? = some (some v) → σ[j]? = some (some v) → False
structure Stt (K : PySem.W.Frag) (C : Cc) (B H : Hp) (σ : L2.St) (ρ : Env) : Prop where
  x : Ext C.B0 C.G B H
  r : RelS K C B H σ ρ
section
variable {K : PySem.W.Frag} {C : Cc} {B H B' H' : Hp} {σ : L2.St} {ρ : Env} {v : V} {s : Sl}
theorem Sq_mono {a : Addr} {xs : List V} (h : SqL K B a xs) (e : Same B B') : SqL K B' a xs := e.seq h
theorem SlA.on {ec : XK → Addr} (h : SlA K ec B v s) (e : Same B B') : SlA K ec B' v s := by
  cases s with
  | fz d => exact Dt.on h e
  | ex k => obtain ⟨a, q, z⟩ := h; exact ⟨a, q, e _ _ z⟩
  | sc ns => obtain ⟨a, q, z⟩ := h; exact ⟨a, q, Sq_mono z e⟩
  | bx a => exact h
  | nil => exact h
  | ow _ => exact h
  | dc _ => exact h
theorem none_ext {a : Addr} {o : HO} (x : Ext B H B' H') (h : H a = some o) (n : B a = none) (nt : ∀ xs, o ≠ .tup xs := by intro _ q; cases q) : B' a = none := by
  cases q : B' a with
  | none => rfl
  | some u =>
    rcases x.n a u q with z | z | ⟨z, xs, rfl⟩
    · rw [n] at z; cases z
    · rw [h] at z; cases z
    · rw [h] at z; exact absurd (Option.some.inj z) (nt xs)
theorem KvT.on {ks : List (List Key × V)} {kvs : List (List Int × PyData)} (h : KvT B ks kvs) (e : Same B B') : KvT B' ks kvs :=
  Paired.mapP h fun _ _ z => ⟨z.1, z.2.on e⟩
theorem SlV.on (h : SlV K C B H v s) (x : Ext B H B' H') : SlV K C B' H' v s := by
  cases s with
  | ow ds => obtain ⟨a, xs, q, h1, h2, h3, h4⟩ := h; exact ⟨a, xs, q, x.h _ _ h1, none_ext x h1 h2, h3, h4.on x.b⟩
  | dc kvs => obtain ⟨a, xs, q, h1, h2, h3, h4⟩ := h; exact ⟨a, xs, q, x.h _ _ h1, none_ext x h1 h2, h3, h4.on x.b⟩
  | nil => exact h
  | fz d => exact Dt.on h x.b
  | ex k => exact SlA.on (K := K) (ec := C.ec) (s := .ex k) h x.b
  | sc ns => exact SlA.on (K := K) (ec := C.ec) (s := .sc ns) h x.b
  | bx a => exact h
theorem SlV.ofA (h : SlA K C.ec B v s) : SlV K C B H v s := by
  cases s with
  | ow ds => exact h.elim
  | dc kvs => exact h.elim
  | nil => exact h
  | fz d => exact h
  | ex k => exact h
  | sc ns => exact h
  | bx a => exact h
theorem Stt.on (S : Stt K C B H σ ρ) (x : Ext B H B' H') : Stt K C B' H' σ ρ :=
  ⟨S.x.trans x, ⟨S.r.len, fun i s e n => let ⟨v, h1, h2⟩ := S.r.at' i s e n; ⟨v, h1, h2.on x⟩, S.r.sep⟩⟩
theorem Stt.sm (S : Stt K C B H σ ρ) : Same B H := S.x.s
/-- a slot of one's own is set (an unowned thing) -/
theorem Stt.setA (S : Stt K C B H σ ρ) (i : Nat) (h : SlA K C.ec B v s) (no : s.own = false) : Stt K C B H (σ.set i (some v)) (ρ.set i s) := by
  refine ⟨S.x, ⟨by rw [List.length_set, List.length_set]; exact S.r.len, fun j t e n => ?_, fun j k t u w hjk e1 e2 o1 o2 f1 f2 => ?_⟩⟩
  · by_cases q : i = j
    · subst q
      have hl : i < ρ.length := by
        have := (List.getElem?_eq_some_iff.mp e).1
        rw [List.length_set] at this; exact this
      rw [List.getElem?_set_self hl] at e
      have e' : s = t := Option.some.inj e
      subst e'
      exact ⟨v, List.getElem?_set_self (by rw [S.r.len]; exact hl), SlV.ofA h⟩
    · rw [List.getElem?_set_ne q] at e ⊢
      exact S.r.at' j t e n
  · have g : ∀ {m : Nat} {t : Sl}, (ρ.set i s)[m]? = some t → t.own = true → i ≠ m := fun {m t} e o q => by
      subst q
      have hl : i < ρ.length := by
        have := (List.getElem?_eq_some_iff.mp e).1
        rw [List.length_set] at this; exact this
      rw [List.getElem?_set_self hl] at e
      have e' : s = t := Option.some.inj e
      subst e'
      rw [no] at o; cases o
    have a1 := g e1 o1
    have a2 := g e2 o2
    rw [List.getElem?_set_ne a1] at e1 f1
    rw [List.getElem?_set_ne a2] at e2 f2
    exact S.r.sep j k t u w hjk e1 e2 o1 o2 f1 f2
theorem Stt.set (S : Stt K C B H σ ρ) (i : Nat) {d : PyData} (h : Dt B v d) : Stt K C B H (σ.set i (some v)) (ρ.set i (.fz d)) := S.setA i (s := .fz d) h rfl
/-- a slot is forgotten -/
theorem Stt.unset (S : Stt K C B H σ ρ) (i : Nat) : Stt K C B H (σ.set i none) (ρ.set i .nil) := by
  refine ⟨S.x, ⟨by rw [List.length_set, List.length_set]; exact S.r.len, fun j t e n => ?_, fun j k t u w hjk e1 e2 o1 o2 f1 f2 => ?_⟩⟩
  · by_cases q : i = j
    · subst q
      have hl : i < ρ.length := by
        have := (List.getElem?_eq_some_iff.mp e).1
        rw [List.length_set] at this; exact this
      rw [List.getElem?_set_self hl] at e
      exact absurd (Option.some.inj e).symm n
    · rw [List.getElem?_set_ne q] at e ⊢
      exact S.r.at' j t e n
  · have g : ∀ {m : Nat} {t : Sl}, (ρ.set i .nil)[m]? = some t → t.own = true → i ≠ m := fun {m t} e o q => by
      subst q
      have hl : i < ρ.length := by
        have := (List.getElem?_eq_some_iff.mp e).1
        rw [List.length_set] at this; exact this
      rw [List.getElem?_set_self hl] at e
      have e' : Sl.nil = t := Option.some.inj e
      subst e'
      cases o
    have a1 := g e1 o1
    have a2 := g e2 o2
    rw [List.getElem?_set_ne a1] at e1 f1
    rw [List.getElem?_set_ne a2] at e2 f2
    exact S.r.sep j k t u w hjk e1 e2 o1 o2 f1 f2
/-- what an owned slot holds -/
theorem Stt.ownAt (S : Stt K C B H σ ρ) {i : Nat} (e : ρ[i]? = some s) (o : s.own = true) : ∃ a u, σ[i]? = some (some (.ref a)) ∧ H a = some u ∧ B a = none ∧ C.G a = none := by
  obtain ⟨v, h1, h2⟩ := S.r.at' i s e (by rintro rfl; cases o)
  cases s with
  | ow ds => obtain ⟨a, xs, rfl, q1, q2, q3, _⟩ := h2; exact ⟨a, _, h1, q1, q2, q3⟩
  | dc kvs => obtain ⟨a, xs, rfl, q1, q2, q3, _⟩ := h2; exact ⟨a, _, h1, q1, q2, q3⟩
  | nil => cases o
  | fz d => cases o
  | ex k => cases o
  | sc ns => cases o
  | bx a => cases o
theorem get_set_some {α : Type} {l : List α} {i j : Nat} {x y : α} (h : (l.set i x)[j]? = some y) : (i = j ∧ y = x ∧ i < l.length) ∨ (i ≠ j ∧ l[j]? = some y) := by
  by_cases q : i = j
  · subst q
    have hl : i < l.length := by
      have := (List.getElem?_eq_some_iff.mp h).1
      rw [List.length_set] at this; exact this
    rw [List.getElem?_set_self hl] at h
    exact .inl ⟨rfl, (Option.some.inj h).symm, hl⟩
  · rw [List.getElem?_set_ne q] at h
    exact .inr ⟨q, h⟩
/-- a new owned thing at a fresh address comes to a slot -/
theorem Stt.setO {a : Addr} {o : HO} (S : Stt K C B H σ ρ) (i : Nat) (hn : H a = none) (ho : s.own = true) (hs : SlV K C B (upd H a o) (.ref a) s) : Stt K C B (upd H a o) (σ.set i (some (.ref a))) (ρ.set i s) := by
  have S1 : Stt K C B (upd H a o) σ ρ := S.on (Ext.raw S.sm hn)
  have far : ∀ (j : Nat) (t : Sl), ρ[j]? = some t → t.own = true → σ[j]? = some (some (V.ref a)) → False := fun j t e ot f => by
    obtain ⟨b, u, g1, g2, _⟩ := S.ownAt e ot
    rw [f] at g1
    injection g1 with g1; injection g1 with g1; injection g1 with g1
    subst g1
    rw [hn] at g2; cases g2
  refine ⟨S1.x, ⟨by rw [List.length_set, List.length_set]; exact S1.r.len, fun j t e n => ?_, fun j k t u w hjk e1 e2 o1 o2 f1 f2 => ?_⟩⟩
  · rcases get_set_some e with ⟨q, rfl, hl⟩ | ⟨q, e⟩
    · subst q
      exact ⟨.ref a, List.getElem?_set_self (by rw [S.r.len]; exact hl), hs⟩
    · rw [List.getElem?_set_ne q]
      exact S1.r.at' j t e n
  · rcases get_set_some e1 with ⟨q1, hts, hl⟩ | ⟨q1, e1⟩
    · subst q1
      rw [List.getElem?_set_self (by rw [S.r.len]; exact hl)] at f1
      have f1' : V.ref a = w := Option.some.inj (Option.some.inj f1)
      subst f1'
      rcases get_set_some e2 with ⟨q2, _, _⟩ | ⟨q2, e2⟩
      · exact hjk q2
      · rw [List.getElem?_set_ne q2] at f2
        exact far k u e2 o2 f2
    · rw [List.getElem?_set_ne q1] at f1
      rcases get_set_some e2 with ⟨q2, hts, hl⟩ | ⟨q2, e2⟩
      · subst q2
        rw [List.getElem?_set_self (by rw [S.r.len]; exact hl)] at f2
        have f2' : V.ref a = w := Option.some.inj (Option.some.inj f2)
        subst f2'
        exact far j t e1 o1 f1
      · rw [List.getElem?_set_ne q2] at f2
        exact S.r.sep j k t u w hjk e1 e2 o1 o2 f1 f2
/-- an owned thing is changed in place -/
theorem Stt.mut {i : Nat} {a : Addr} {o : HO} {t : Sl} (S : Stt K C B H σ ρ) (e : ρ[i]? = some s) (hso : s.own = true) (hσ : σ[i]? = some (some (.ref a))) (hto : t.own = true) (ht : SlV K C B (upd H a o) (.ref a) t) : Stt K C B (upd H a o) σ (ρ.set i t) := by
  obtain ⟨b, u, g1, g2, g3, g4⟩ := S.ownAt e hso
  rw [hσ] at g1
  injection g1 with g1; injection g1 with g1; injection g1 with g1
  subst g1
  have ext : Ext C.B0 C.G B (upd H a o) := ⟨S.x.b, fun c w q => by
      have : c ≠ a := fun z => by subst z; rw [g4] at q; cases q
      rw [upd_ne this]; exact S.x.h _ _ q, fun c w q => by
      have : c ≠ a := fun z => by subst z; rw [g3] at q; cases q
      rw [upd_ne this]; exact S.x.s _ _ q, S.x.n⟩
  refine ⟨ext, ⟨by rw [List.length_set]; exact S.r.len, fun j w f n => ?_, fun j k w1 w2 w hjk e1 e2 o1 o2 f1 f2 => ?_⟩⟩
  · rcases get_set_some f with ⟨q, rfl, hl⟩ | ⟨q, f⟩
    · subst q
      exact ⟨.ref a, hσ, ht⟩
    · obtain ⟨v, h1, h2⟩ := S.r.at' j w f n
      refine ⟨v, h1, ?_⟩
      cases w with
      | ow ds =>
        obtain ⟨c, xs, rfl, z1, z2, z3, z4⟩ := h2
        have : c ≠ a := fun z => by
          subst z
          exact S.r.sep i j s (.ow ds) (.ref c) q e f hso rfl hσ h1
        exact ⟨c, xs, rfl, by rw [upd_ne this]; exact z1, z2, z3, z4⟩
      | dc ds =>
        obtain ⟨c, xs, rfl, z1, z2, z3, z4⟩ := h2
        have : c ≠ a := fun z => by
          subst z
          exact S.r.sep i j s (.dc ds) (.ref c) q e f hso rfl hσ h1
        exact ⟨c, xs, rfl, by rw [upd_ne this]; exact z1, z2, z3, z4⟩
      | nil => exact h2
      | fz d => exact h2
      | ex k => exact h2
      | sc ns => exact h2
      | bx a => exact h2
  · have g : ∀ {m : Nat} {x : Sl}, (ρ.set i t)[m]? = some x → x.own = true → ∃ y, ρ[m]? = some y ∧ y.own = true := fun {m x} z zo => by
      rcases get_set_some z with ⟨q, rfl, hl⟩ | ⟨q, f⟩
      · subst q; exact ⟨s, e, hso⟩
      · exact ⟨x, f, zo⟩
    obtain ⟨y1, b1, c1⟩ := g e1 o1
    obtain ⟨y2, b2, c2⟩ := g e2 o2
    exact S.r.sep j k y1 y2 w hjk b1 b2 c1 c2 f1 f2
/-- an owned list is frozen -/
theorem Stt.frz {i : Nat} {ds : List PyData} (S : Stt K C B H σ ρ) (e : ρ[i]? = some (.ow ds)) : ∃ B', Same B B' ∧ Stt K C B' H σ (ρ.set i (.fz (.list ds))) := by
  obtain ⟨v, h1, a, xs, rfl, z1, z2, z3, z4⟩ := S.r.at' i _ e (by intro q; cases q)
  have sb : Same B (upd B a (.lst xs)) := same_new z2
  refine ⟨upd B a (.lst xs), sb, ⟨⟨S.x.b.trans sb, S.x.h, fun c w q => ?_, fun c w q => ?_⟩, ⟨by rw [List.length_set]; exact S.r.len, fun j w f n => ?_, fun j k w1 w2 w hjk e1 e2 o1 o2 f1 f2 => ?_⟩⟩⟩
  · by_cases z : c = a
    · subst z; rw [upd_same] at q; rw [z1]; exact q
    · rw [upd_ne z] at q; exact S.x.s _ _ q
  · by_cases z : c = a
    · subst z; exact .inr (.inl z3)
    · rw [upd_ne z] at q; exact S.x.n _ _ q
  · rcases get_set_some f with ⟨q, rfl, hl⟩ | ⟨q, f⟩
    · subst q
      exact ⟨.ref a, h1, Dt.lst upd_same (z4.on sb)⟩
    · obtain ⟨v, h1', h2⟩ := S.r.at' j w f n
      refine ⟨v, h1', ?_⟩
      cases w with
      | ow ds' =>
        obtain ⟨c, ys, rfl, y1, y2, y3, y4⟩ := h2
        have : c ≠ a := fun z => by
          subst z
          exact S.r.sep i j (.ow ds) (.ow ds') (.ref c) q e f rfl rfl h1 h1'
        exact ⟨c, ys, rfl, y1, by rw [upd_ne this]; exact y2, y3, y4.on sb⟩
      | dc ds' =>
        obtain ⟨c, ys, rfl, y1, y2, y3, y4⟩ := h2
        have : c ≠ a := fun z => by
          subst z
          exact S.r.sep i j (.ow ds) (.dc ds') (.ref c) q e f rfl rfl h1 h1'
        exact ⟨c, ys, rfl, y1, by rw [upd_ne this]; exact y2, y3, y4.on sb⟩
      | nil => exact h2
      | fz d => exact Dt.on h2 sb
      | ex k => exact SlA.on (K := K) (ec := C.ec) (s := .ex k) h2 sb
      | sc ns => exact SlA.on (K := K) (ec := C.ec) (s := .sc ns) h2 sb
      | bx a => exact h2
  · have g : ∀ {m : Nat} {x : Sl}, (ρ.set i (.fz (.list ds)))[m]? = some x → x.own = true → ρ[m]? = some x := fun {m x} z zo => by
      rcases get_set_some z with ⟨q, rfl, hl⟩ | ⟨q, f⟩
      · cases zo
      · exact f
    exact S.r.sep j k w1 w2 w hjk (g e1 o1) (g e2 o2) o1 o2 f1 f2
end

/-! ### readings -/
section
variable (K : PySem.W.Frag) (C : Cc)
/-- an error is let out -/
def pX (B H : Hp) (σ : L2.St) (k : XK) : Prop := ∀ B' H', Ext B H B' H' → C.W (.ref (C.ec k)) none σ H'
def pR {α : Type} (B H : Hp) (σ : L2.St) (P : α → Prop) : Rs α → Prop
  | .ok a => P a
  | .er k => pX C B H σ k
  | .no => False
def pE (B H : Hp) (σ : L2.St) (Q : VK) : Rs PyData → Prop := pR C B H σ fun d => ∀ v B' H', Ext B H B' H' → Dt B' v d → Q v H'
def pB (B H : Hp) (σ : L2.St) (Q : VK) : Rs Sl → Prop := pR C B H σ fun s => ∀ v B' H', Ext B H B' H' → SlV K C B' H' v s → Q v H'
def pT (B H : Hp) (σ : L2.St) (Q : Bool → Hp → Prop) : Rs Bool → Prop := pR C B H σ fun b => ∀ B' H', Ext B H B' H' → Q b H'
/-- a new list, not yet frozen -/
def pL (B H : Hp) (σ : L2.St) (Q : VK) : Rs (List PyData) → Prop := pR C B H σ fun ds => ∀ a xs B' H', Ext B H B' H' → H a = none → B' a = none → H' a = some (.lst xs) → DtAll B' xs ds → Q (.ref a) H'
def pA (B H : Hp) (σ : L2.St) (Q : List V → Hp → Prop) : Rs (List PyData) → Prop := pR C B H σ fun ds => ∀ vs B' H', Ext B H B' H' → DtAll B' vs ds → Q vs H'
def tE (f : DE) : TE := fun σ H Q => ∃ ρ B, Stt K C B H σ ρ ∧ pE C B H σ Q (f ρ)
def tBo (f : DB) : TE := fun σ H Q => ∃ ρ B, Stt K C B H σ ρ ∧ pB K C B H σ Q (f ρ)
def tT (f : DT) : TT := fun σ H Q => ∃ ρ B, Stt K C B H σ ρ ∧ pT C B H σ Q (f ρ)
def tL (f : DL) : TE := fun σ H Q => ∃ ρ B, Stt K C B H σ ρ ∧ pL C B H σ Q (f ρ)
def tA (f : DL) : TA := fun σ H Q => ∃ ρ B, Stt K C B H σ ρ ∧ pA C B H σ Q (f ρ)
end
section
variable (X : Cx) (C : Cc)
def XE (e : Expr) (f : DE) : Prop := PE X e (tE X.K C f)
def XB (e : Expr) (f : DB) : Prop := PE X e (tBo X.K C f)
def XL (e : Expr) (f : DL) : Prop := PE X e (tL X.K C f)
def XT (e : Expr) (f : DT) : Prop := PT X e (tT X.K C f)
def XW (e : Expr) (f : DT) : Prop := PW X e (tT X.K C f)
def XA (es : List Expr) (f : DL) : Prop := PA X es (tA X.K C f)
end
theorem _root_.L2.PE.imp {X : Cx} {e : Expr} {t u : TE} (h : PE X e t) (k : ∀ σ H Q, u σ H Q → t σ H Q) : PE X e u := ⟨fun pins s σ H Q I hq => h.run pins s σ H Q I (k σ H Q hq)⟩
theorem _root_.L2.PT.imp {X : Cx} {e : Expr} {t u : TT} (h : PT X e t) (k : ∀ σ H Q, u σ H Q → t σ H Q) : PT X e u := ⟨fun pins s σ H Q I hq => h.run pins s σ H Q I (k σ H Q hq)⟩
theorem _root_.L2.PW.imp {X : Cx} {e : Expr} {t u : TT} (h : PW X e t) (k : ∀ σ H Q, u σ H Q → t σ H Q) : PW X e u := ⟨fun wh pins s σ H Q I hq => h.run wh pins s σ H Q I (k σ H Q hq)⟩
theorem _root_.L2.PA.imp {X : Cx} {e : List Expr} {t u : TA} (h : PA X e t) (k : ∀ σ H Q, u σ H Q → t σ H Q) : PA X e u := ⟨fun pos pins s σ H Q I hq => h.run pos pins s σ H Q I (k σ H Q hq)⟩
theorem _root_.L2.PS.imp {X : Cx} {e : Stmt} {t u : TS} (h : PS X e t) (k : ∀ D σ H, u D σ H → t D σ H) : PS X e u := ⟨fun pins s σ H D I hq => h.run pins s σ H D I (k D σ H hq)⟩
theorem _root_.L2.PSs.imp {X : Cx} {e : List Stmt} {t u : TS} (h : PSs X e t) (k : ∀ D σ H, u D σ H → t D σ H) : PSs X e u := ⟨fun pins s σ H D I hq => h.run pins s σ H D I (k D σ H hq)⟩

section
variable {K : PySem.W.Frag} {C : Cc} {B H B' H' B1 H1 : Hp} {σ : L2.St} {ρ : Env}
theorem pX.on {k : XK} (h : pX C B H σ k) (x : Ext B H B' H') : pX C B' H' σ k := fun B2 H2 y => h B2 H2 (x.trans y)
theorem pR.on {α : Type} {P P' : α → Prop} {r : Rs α} (h : pR C B H σ P r) (x : Ext B H B' H') (k : ∀ a, P a → P' a) : pR C B' H' σ P' r := by
  cases r with
  | ok a => exact k a h
  | er k => exact pX.on h x
  | no => exact h
theorem pE.on {Q : VK} {r : Rs PyData} (h : pE C B H σ Q r) (x : Ext B H B' H') : pE C B' H' σ Q r := pR.on h x fun _ z v B2 H2 y t => z v B2 H2 (x.trans y) t
theorem pB.on {Q : VK} {r : Rs Sl} (h : pB K C B H σ Q r) (x : Ext B H B' H') : pB K C B' H' σ Q r := pR.on h x fun _ z v B2 H2 y t => z v B2 H2 (x.trans y) t
theorem pT.on {Q : Bool → Hp → Prop} {r : Rs Bool} (h : pT C B H σ Q r) (x : Ext B H B' H') : pT C B' H' σ Q r := pR.on h x fun _ z B2 H2 y => z B2 H2 (x.trans y)
theorem pA.on {Q : List V → Hp → Prop} {r : Rs (List PyData)} (h : pA C B H σ Q r) (x : Ext B H B' H') : pA C B' H' σ Q r := pR.on h x fun _ z v B2 H2 y t => z v B2 H2 (x.trans y) t
theorem pL.on {Q : VK} {r : Rs (List PyData)} (h : pL C B H σ Q r) (x : Ext B H B' H') : pL C B' H' σ Q r :=
  pR.on h x fun _ z a xs B2 H2 y n1 n2 h1 t => z a xs B2 H2 (x.trans y) (x.h.free n1) n2 h1 t
/-- one computation, then another: the second's reading goes on where the first has come to -/
theorem bindP {α β : Type} {P : α → Prop} {P' : β → Prop} {r : Rs α} {f : α → Rs β} (h : pR C B H σ P' (r.bind f)) (k : ∀ a, r = .ok a → pR C B H σ P' (f a) → P a) : pR C B H σ P r := by
  cases r with
  | ok a => exact k a rfl h
  | er k => exact h
  | no => exact h
end
end MS

/-! MsLayB: the expressions' rules. -/
namespace MS
open PySem L2 PyProof.Rows

section
variable {X : Cx} {C : Cc} {e a b c d0 : Expr} {es : List Expr} {f g h k : DE} {fb gb : DB} {t u : DT} {pos : Pos}

/-! ### names, constants -/
theorem xe_var (i : Nat) {x : Str} (hN : X.N[i]? = some x := by rfl) (hv : Vis X.env.scope x := by first | exact Or.inl rfl | exact Or.inr (Or.inl rfl) | exact Or.inr (Or.inr rfl)) (hd : (x == ("__debug__" : Str)) = false := by decide)
    (hcd : (x == ("__classdict__" : Str)) = false := by decide) : XE X C (.Name x pos) (dVar i) := (pe_var hN hv hd hcd).imp fun σ H Q ⟨ρ, B, S, h⟩ => by
  unfold dVar at h
  split at h
  · rename_i d e
    obtain ⟨v, h1, h2⟩ := S.r.at' i _ e (by intro q; cases q)
    exact ⟨v, h1, h v B H (Ext.refl S.sm) h2⟩
  · exact h.elim
theorem xb_var (i : Nat) {x : Str} (hN : X.N[i]? = some x := by rfl) (hv : Vis X.env.scope x := by first | exact Or.inl rfl | exact Or.inr (Or.inl rfl) | exact Or.inr (Or.inr rfl)) (hd : (x == ("__debug__" : Str)) = false := by decide)
    (hcd : (x == ("__classdict__" : Str)) = false := by decide) : XB X C (.Name x pos) (bVar i) := (pe_var hN hv hd hcd).imp fun σ H Q ⟨ρ, B, S, h⟩ => by
  unfold bVar at h
  split at h
  · exact h.elim
  · rename_i s n e
    obtain ⟨v, h1, h2⟩ := S.r.at' i _ e n
    exact ⟨v, h1, h v B H (Ext.refl S.sm) h2⟩
  · exact h.elim
theorem xb_of (he : XE X C e f) : XB X C e (bOf f) := PE.imp he fun σ H Q ⟨ρ, B, S, h⟩ => ⟨ρ, B, S, bindP h fun d _ h v B' H' x t => h v B' H' x t⟩
theorem xe_c {v : V} {d : PyData} (hp : PE X e (tC v)) (hd : ∀ B, Dt B v d) : XE X C e (dC d) := hp.imp fun σ H Q ⟨ρ, B, S, h⟩ => h v B H (Ext.refl S.sm) (hd B)
theorem xe_int {i : Int} {j} : XE X C (.Constant (.int i) j pos) (dC (.int i)) := xe_c pe_int fun _ => .int _
theorem xe_bl {b : Bool} {j} : XE X C (.Constant (.bool b) j pos) (dC (.bool b)) := xe_c pe_bl fun _ => .bl _
theorem xe_non {j} : XE X C (.Constant .none j pos) (dC .none) := xe_c pe_non fun _ => .non
theorem xe_str {x : Str} {j} : XE X C (.Constant (.str x) j pos) (dC (.str x)) := xe_c pe_str fun _ => .str _
theorem xe_globI {x : Str} {n : Int} (hm : ∃ t, X.mg x = some (.int n t)) (hg : Gl X x := by rfl) (hd : (x == ("__debug__" : Str)) = false := by decide) : XE X C (.Name x pos) (dC (.int n)) := by
  obtain ⟨t, q⟩ := hm
  exact xe_c (v := .int n) (pe_glob hg q ⟨t, rfl⟩ hd) fun _ => .int _
theorem xe_globS {x z : Str} (hm : ∃ t, X.mg x = some (.str z t)) (hg : Gl X x := by rfl) (hd : (x == ("__debug__" : Str)) = false := by decide) : XE X C (.Name x pos) (dC (.str z)) := by
  obtain ⟨t, q⟩ := hm
  exact xe_c (v := .str z) (pe_glob hg q ⟨t, rfl⟩ hd) fun _ => .str _
theorem xe_neg {i : Int} {j} {p2 : Pos} : XE X C (.UnaryOp .USub (.Constant (.int i) j p2) pos) (dC (.int (-i))) := (pe_un un_neg pe_int).imp fun σ H Q ⟨ρ, B, S, h⟩ => ⟨i, rfl, h _ B H (Ext.refl S.sm) (.int _)⟩

/-! ### operators -/
theorem xe_bin {o : Operator} {r : R2} {op : PyData → PyData → Rs PyData} (ho : OpR X (binaryOp o) r)
    (hr : ∀ {B H : Hp} {σ : L2.St} {v w : V} {x y : PyData} {Q : VK}, Same B H → Dt B v x → Dt B w y → pE C B H σ Q (op x y) → r v w H Q) (ha : XE X C a f) (hb : XE X C b g) : XE X C (.BinOp a o b pos) (dBin op f g) :=
  (pe_op ho ha hb).imp fun σ H Q ⟨ρ, B, S, h⟩ => ⟨ρ, B, S, bindP h fun x _ h v1 B1 H1 x1 t1 => ⟨ρ, B1, S.on x1, bindP (pE.on (Q := Q) h x1) fun y _ h v2 B2 H2 x2 t2 => hr x2.s (t1.on x2.b) t2 (pE.on (Q := Q) h x2)⟩⟩
theorem xe_add (ha : XE X C a f) (hb : XE X C b g) : XE X C (.BinOp a .Add b pos) (dBin opAdd f g) :=
  xe_bin ((op_add.or op_catA).or (op_cat.or op_add_str)) (fun {B H σ v w x y Q} sm tx ty h => by
    cases tx with
    | int i =>
      cases ty with
      | int j => exact .inl (.inl ⟨i, j, rfl, rfl, h _ B H (Ext.refl sm) (.int _)⟩)
      | _ => exact h.elim
    | @tup p xs ds h1 h2 =>
      cases ty with
      | @tup q ys es h3 h4 =>
        have h' : pE C B H σ Q (if ds.length + es.length ≤ lim then .ok (.tuple (ds ++ es)) else .no) := h
        by_cases hz : ds.length + es.length ≤ lim
        · rw [if_pos hz] at h'
          refine .inl (.inr ⟨p, q, xs, ys, rfl, rfl, SqT.of (sm _ _ h1), SqT.of (sm _ _ h3), by rw [h2.len, h4.len]; exact lim_le hz, fun e => ?_, fun _ e => ?_, fun _ _ n hn => ?_⟩)
          · subst e
            cases h2
            exact h' _ B H (Ext.refl sm) (.tup h3 h4)
          · subst e
            cases h4
            rw [List.append_nil] at h'
            exact h' _ B H (Ext.refl sm) (.tup h1 h2)
          · have x := Ext.new (o := .tup (xs ++ ys)) sm hn
            exact h' _ _ _ x (.tup upd_same ((h2.app h4).on x.b))
        · rw [if_neg hz] at h'
          exact h'.elim
      | _ => exact h.elim
    | @lst p xs ds h1 h2 =>
      cases ty with
      | @lst q ys es h3 h4 =>
        have h' : pE C B H σ Q (if ds.length + es.length ≤ lim then .ok (.list (ds ++ es)) else .no) := h
        by_cases hz : ds.length + es.length ≤ lim
        · rw [if_pos hz] at h'
          refine .inr (.inl ⟨p, q, xs, ys, rfl, rfl, sm _ _ h1, sm _ _ h3, by rw [h2.len, h4.len]; exact lim_le hz, fun n hn => ?_⟩)
          have x := Ext.new (o := .lst (xs ++ ys)) sm hn
          exact h' _ _ _ x (.lst upd_same ((h2.app h4).on x.b))
        · rw [if_neg hz] at h'
          exact h'.elim
      | _ => exact h.elim
    | str z =>
      cases ty with
      | str z2 =>
        have h' : pE C B H σ Q (if z.length + z2.length ≤ lim then .ok (.str (z ++ z2)) else .no) := h
        by_cases hz : z.length + z2.length ≤ lim
        · rw [if_pos hz] at h'
          exact .inr (.inr ⟨z, z2, rfl, rfl, lim_le hz, h' _ B H (Ext.refl sm) (.str _)⟩)
        · rw [if_neg hz] at h'
          exact h'.elim
      | _ => exact h.elim
    | _ => exact h.elim) ha hb
theorem xe_sub (ha : XE X C a f) (hb : XE X C b g) : XE X C (.BinOp a .Sub b pos) (dBin opSub f g) :=
  xe_bin op_sub (fun {B H σ v w x y Q} sm tx ty h => by
    cases tx with
    | int i =>
      cases ty with
      | int j => exact ⟨i, j, rfl, rfl, h _ B H (Ext.refl sm) (.int _)⟩
      | _ => exact h.elim
    | _ => exact h.elim) ha hb
theorem xe_mul (ha : XE X C a f) (hb : XE X C b g) : XE X C (.BinOp a .Mult b pos) (dBin opMul f g) :=
  xe_bin (op_mul.or op_rep) (fun {B H σ v w x y Q} sm tx ty h => by
    cases tx with
    | int i =>
      cases ty with
      | int j =>
        have h' : pE C B H σ Q (if (-(2 ^ 64) < i ∧ i < 2 ^ 64) ∨ (-(2 ^ 64) < j ∧ j < 2 ^ 64) then .ok (.int (i * j)) else .no) := h
        by_cases hz : (-(2 ^ 64) < i ∧ i < 2 ^ 64) ∨ (-(2 ^ 64) < j ∧ j < 2 ^ 64)
        · rw [if_pos hz] at h'
          exact .inl ⟨i, j, rfl, rfl, hz, h' _ B H (Ext.refl sm) (.int _)⟩
        · rw [if_neg hz] at h'
          exact h'.elim
      | _ => exact h.elim
    | @lst p xs ds h1 h2 =>
      cases ty with
      | int j =>
        have h' : pE C B H σ Q (if 0 ≤ j ∧ j < 2 ^ 62 ∧ ds.length * j.toNat ≤ lim then .ok (.list (List.replicate j.toNat ds).flatten) else .no) := h
        by_cases hz : 0 ≤ j ∧ j < 2 ^ 62 ∧ ds.length * j.toNat ≤ lim
        · rw [if_pos hz] at h'
          obtain ⟨z1, z2, z3⟩ := hz
          refine .inr ⟨p, j, xs, rfl, rfl, sm _ _ h1, by omega, by omega, by rw [h2.len]; exact lim_le z3, fun n hn => ?_⟩
          have x := Ext.new (o := .lst (List.replicate j.toNat xs).flatten) sm hn
          exact h' _ _ _ x (.lst upd_same ((h2.rep _).on x.b))
        · rw [if_neg hz] at h'
          exact h'.elim
      | _ => exact h.elim
    | _ => exact h.elim) ha hb
theorem xe_mod (ha : XE X C a f) (hb : XE X C b g) : XE X C (.BinOp a .Mod b pos) (dBin opMod f g) :=
  xe_bin op_mod (fun {B H σ v w x y Q} sm tx ty h => by
    cases tx with
    | int i =>
      cases ty with
      | int j =>
        have h' : pE C B H σ Q (if 0 < j then .ok (.int (i % j)) else .no) := h
        by_cases hz : 0 < j
        · rw [if_pos hz] at h'
          exact ⟨i, j, rfl, rfl, hz, h' _ B H (Ext.refl sm) (.int _)⟩
        · rw [if_neg hz] at h'
          exact h'.elim
      | _ => exact h.elim
    | _ => exact h.elim) ha hb
theorem xe_div (ha : XE X C a f) (hb : XE X C b g) : XE X C (.BinOp a .FloorDiv b pos) (dBin opDiv f g) :=
  xe_bin op_fdiv (fun {B H σ v w x y Q} sm tx ty h => by
    cases tx with
    | int i =>
      cases ty with
      | int j =>
        have h' : pE C B H σ Q (if 0 < j ∧ j < 1073741824 then .ok (.int (i / j)) else .no) := h
        by_cases hz : 0 < j ∧ j < 1073741824
        · rw [if_pos hz] at h'
          exact ⟨i, j, rfl, rfl, hz, h' _ B H (Ext.refl sm) (.int _)⟩
        · rw [if_neg hz] at h'
          exact h'.elim
      | _ => exact h.elim
    | _ => exact h.elim) ha hb

/-! ### comparisons -/
def rG (c : PyData → PyData → Rs Bool) : R2 := fun x y H Q => ∃ B d1 d2 b, Same B H ∧ Dt B x d1 ∧ Dt B y d2 ∧ c d1 d2 = .ok b ∧ Q (.bl b) H
structure CmOk (X : Cx) (o : CmpOp) (c : PyData → PyData → Rs Bool) : Prop where
  op : OpR X (compareOp o) (rG c)
  ne : ∀ x y k, c x y ≠ .er k
  mark : ∀ b, behindInMarks o b = false
theorem xe_of_dT (hp : PE X e (fun σ H Q => ∃ ρ B, Stt X.K C B H σ ρ ∧ pR C B H σ (fun b => ∀ B' H', Ext B H B' H' → Q (.bl b) H') (t ρ))) : XE X C e (dT t) := hp.imp fun σ H Q ⟨ρ, B, S, h⟩ => ⟨ρ, B, S, bindP h fun b _ h B' H' x => h (.bl b) B' H' x (.bl b)⟩
/-- two operands, then a comparison -/
theorem cmp_go {c : PyData → PyData → Rs Bool} (ne : ∀ x y k, c x y ≠ .er k) {K : PySem.W.Frag} {σ : L2.St} {H B : Hp} {ρ : Env} {Q : VK} (S : Stt K C B H σ ρ)
    (h : pR C B H σ (fun b => ∀ B' H', Ext B H B' H' → Q (.bl b) H') (tCmp c f g ρ)) : tOp (rG c) (tE K C f) (tE K C g) σ H Q :=
  ⟨ρ, B, S, bindP h fun x _ h v1 B1 H1 x1 t1 => ⟨ρ, B1, S.on x1, bindP (pR.on (P' := fun b => ∀ B' H', Ext B1 H1 B' H' → Q (.bl b) H') h x1 fun _ z B' H' y => z B' H' (x1.trans y)) fun y _ h v2 B2 H2 x2 t2 => by
    cases q : c x y with
    | ok b =>
      rw [q] at h
      exact ⟨B2, x, y, b, x2.s, t1.on x2.b, t2, q, h B2 H2 x2⟩
    | er k => exact absurd q (ne x y k)
    | no => rw [q] at h; exact h.elim⟩⟩
theorem xe_cmp {o : CmpOp} {c : PyData → PyData → Rs Bool} (ho : CmOk X o c) (ha : XE X C a f) (hb : XE X C b g) : XE X C (.Compare a [o] [b] pos) (dT (tCmp c f g)) :=
  xe_of_dT ((pe_cmpR ho.op ha hb (ho.mark b)).imp fun σ H Q ⟨ρ, B, S, h⟩ => cmp_go ho.ne S h)
theorem xt_cmp {o : CmpOp} {c : PyData → PyData → Rs Bool} (ho : CmOk X o c) (ha : XE X C a f) (hb : XE X C b g) : XT X C (.Compare a [o] [b] pos) (tCmp c f g) :=
  (pt_cmpR ho.op ha hb (ho.mark b)).imp fun σ H Q ⟨ρ, B, S, h⟩ => cmp_go ho.ne S (Q := fun x H' => ∃ k, x = .bl k ∧ Q k H') (pR.on h (Ext.refl S.sm) fun b z B' H' x => ⟨b, rfl, z B' H' x⟩)
theorem if_ok {α : Type} {p : Prop} [Decidable p] {x y : α} (h : (if p then Rs.ok x else .no) = .ok y) : p ∧ x = y := by
  by_cases q : p
  · rw [if_pos q] at h; exact ⟨q, by injection h⟩
  · rw [if_neg q] at h; cases h
theorem if_ne {α : Type} {p : Prop} [Decidable p] {x : α} {k : XK} : (if p then Rs.ok x else .no) ≠ .er k := by
  intro h
  by_cases q : p
  · rw [if_pos q] at h; cases h
  · rw [if_neg q] at h; cases h
theorem cm_eq {n : Nat} (hr : Room n X.A) : CmOk X .Eq cEq where
  op := fun pins s σ H x y v u Q I rx ry ⟨B, d1, d2, b, sm, t1, t2, q, hq⟩ => by
    obtain ⟨⟨q1, q2⟩, q3⟩ := if_ok q
    exact op_eqD hr.units pins s σ H x y v u Q I rx ry ⟨d1, d2, (t1.on sm).dp, (t2.on sm).dp, q1, q2, by rw [q3]; exact hq⟩
  ne := fun x y k => if_ne
  mark := fun b => nomark b
theorem cm_ne {n : Nat} (hr : Room n X.A) : CmOk X .NotEq cNe where
  op := fun pins s σ H x y v u Q I rx ry ⟨B, d1, d2, b, sm, t1, t2, q, hq⟩ => by
    obtain ⟨⟨q1, q2⟩, q3⟩ := if_ok q
    exact op_neD hr.units pins s σ H x y v u Q I rx ry ⟨d1, d2, (t1.on sm).dp, (t2.on sm).dp, q1, q2, by rw [q3]; exact hq⟩
  ne := fun x y k => if_ne
  mark := fun b => nomark b
theorem lexLt_eq : ∀ xs ys : List Int, lexLt xs ys = HT.lexLt xs ys
  | [], [] => rfl
  | [], _ :: _ => rfl
  | _ :: _, [] => rfl
  | x :: xs, y :: ys => by
    show (if x = y then lexLt xs ys else decide (x < y)) = if x = y then HT.lexLt xs ys else decide (x < y)
    rw [lexLt_eq xs ys]
theorem cm_lt {n : Nat} (hr : Room n X.A) : CmOk X .Lt cLt where
  op := fun pins s σ H x y v u Q I rx ry ⟨B, d1, d2, b, sm, t1, t2, q, hq⟩ => by
    refine (op_lt.or (op_ltT hr.units0)) pins s σ H x y v u Q I rx ry ?_
    cases t1 with
    | int i =>
      cases t2 with
      | int j =>
        have e : decide (i < j) = b := by injection q
        exact .inl ⟨i, j, rfl, rfl, by show Q (V.bl (decide (i < j))) H; rw [e]; exact hq⟩
      | _ => cases q
    | @tup p xs ds h1 h2 =>
      cases t2 with
      | @tup p2 ys es h3 h4 =>
        cases e1 : intsOf ds with
        | none => simp [cLt, e1] at q
        | some ns =>
          cases e2 : intsOf es with
          | none => simp [cLt, e1, e2] at q
          | some ms =>
            simp only [cLt, e1, e2] at q
            have e : lexLt ns ms = b := by injection q
            have a1 := h2.ints e1
            have a2 := h4.ints e2
            subst a1 a2
            exact .inr ⟨p, p2, ns, ms, rfl, rfl, SqT.of (sm _ _ h1), SqT.of (sm _ _ h3), by rw [← lexLt_eq, e]; exact hq⟩
      | _ => cases q
    | _ => cases q
  ne := fun x y k => by
    intro h
    unfold cLt at h
    split at h
    · cases h
    · split at h <;> cases h
    · cases h
  mark := fun b => nomark b
theorem cm_int {o : CmpOp} {p : Int → Int → Bool} {c : PyData → PyData → Rs Bool} (ho : OpR X (compareOp o) (rI0 fun i j => .bl (p i j))) (hc : ∀ x y b, c x y = .ok b → ∃ i j, x = .int i ∧ y = .int j ∧ p i j = b) (ne : ∀ x y k, c x y ≠ .er k) (mk : ∀ b, behindInMarks o b = false) : CmOk X o c where
  op := fun pins s σ H x y v u Q I rx ry ⟨B, d1, d2, b, sm, t1, t2, q, hq⟩ => by
    obtain ⟨i, j, rfl, rfl, e⟩ := hc _ _ _ q
    cases t1
    cases t2
    exact ho pins s σ H _ _ v u Q I rx ry ⟨i, j, rfl, rfl, by show Q (V.bl (p i j)) H; rw [e]; exact hq⟩
  ne := ne
  mark := mk
theorem cm_le : CmOk X .LtE cLe := cm_int (p := fun i j => decide (i ≤ j)) op_le (fun x y b h => by
    unfold cLe at h
    split at h
    · exact ⟨_, _, rfl, rfl, by injection h⟩
    · cases h) (fun x y k h => by unfold cLe at h; split at h <;> cases h) (fun b => nomark b)
theorem cm_gt : CmOk X .Gt cGt := cm_int (p := fun i j => decide (j < i)) op_gt (fun x y b h => by
    unfold cGt at h
    split at h
    · exact ⟨_, _, rfl, rfl, by injection h⟩
    · cases h) (fun x y k h => by unfold cGt at h; split at h <;> cases h) (fun b => nomark b)
theorem cm_ge : CmOk X .GtE cGe := cm_int (p := fun i j => decide (j ≤ i)) op_ge (fun x y b h => by
    unfold cGe at h
    split at h
    · exact ⟨_, _, rfl, rfl, by injection h⟩
    · cases h) (fun x y k h => by unfold cGe at h; split at h <;> cases h) (fun b => nomark b)

/-! chains -/
theorem chain_go {c1 c2 : PyData → PyData → Rs Bool} (ne1 : ∀ x y k, c1 x y ≠ .er k) (ne2 : ∀ x y k, c2 x y ≠ .er k) {K : PySem.W.Frag} {σ : L2.St} {H B : Hp} {ρ : Env} {Q : VK} (S : Stt K C B H σ ρ)
    (hh : pR C B H σ (fun b => ∀ B' H', Ext B H B' H' → Q (.bl b) H') (tCh c1 c2 f g h ρ)) : tChain (rG c1) (rG c2) (tE K C f) (tE K C g) (tE K C h) σ H Q :=
  ⟨ρ, B, S, bindP hh fun x _ h1 v1 B1 H1 x1 t1 => ⟨ρ, B1, S.on x1, bindP (pR.on (P' := fun b => ∀ B' H', Ext B1 H1 B' H' → Q (.bl b) H') h1 x1 fun _ z B' H' y => z B' H' (x1.trans y)) fun y _ h2 v2 B2 H2 x2 t2 => by
    cases q : c1 x y with
    | ok b =>
      refine ⟨B2, x, y, b, x2.s, t1.on x2.b, t2, q, b, rfl, ?_⟩
      rw [q] at h2
      cases b with
      | false =>
        show Q (.bl false) H2
        exact h2 B2 H2 x2
      | true =>
        show tE K C h σ H2 _
        refine ⟨ρ, B2, (S.on x1).on x2, bindP (pR.on (P' := fun b => ∀ B' H', Ext B2 H2 B' H' → Q (.bl b) H') h2 x2 fun _ z B' H' y => z B' H' (x2.trans y)) fun z _ h3 v3 B3 H3 x3 t3 => ?_⟩
        cases q2 : c2 y z with
        | ok b2 =>
          rw [q2] at h3
          exact ⟨B3, y, z, b2, x3.s, t2.on x3.b, t3, q2, h3 B3 H3 x3⟩
        | er k => exact absurd q2 (ne2 y z k)
        | no => rw [q2] at h3; exact h3.elim
    | er k => exact absurd q (ne1 x y k)
    | no => rw [q] at h2; exact h2.elim⟩⟩
theorem xe_ch {o1 o2 : CmpOp} {c1 c2 : PyData → PyData → Rs Bool} (h1 : CmOk X o1 c1) (h2 : CmOk X o2 c2) (ha : XE X C a f) (hb : XE X C b g) (hc : XE X C c h) (hm : lastMarks [o1, o2] [b, c] = false := by with_unfolding_all rfl) : XE X C (.Compare a [o1, o2] [b, c] pos) (dT (tCh c1 c2 f g h)) :=
  xe_of_dT ((pe_chain h1.op h2.op ha hb hc hm).imp fun σ H Q ⟨ρ, B, S, h⟩ => chain_go h1.ne h2.ne S h)
theorem xt_ch {o1 o2 : CmpOp} {c1 c2 : PyData → PyData → Rs Bool} (h1 : CmOk X o1 c1) (h2 : CmOk X o2 c2) (ha : XE X C a f) (hb : XE X C b g) (hc : XE X C c h) (hm : lastMarks [o1, o2] [b, c] = false := by with_unfolding_all rfl) : XT X C (.Compare a [o1, o2] [b, c] pos) (tCh c1 c2 f g h) :=
  (pt_chain h1.op h2.op ha hb hc hm).imp fun σ H Q ⟨ρ, B, S, h⟩ => chain_go h1.ne h2.ne S (Q := fun x H' => ∃ k, x = .bl k ∧ Q k H') (pR.on h (Ext.refl S.sm) fun b z B' H' x => ⟨b, rfl, z B' H' x⟩)
/-- a op1 b op2 c op3 d -/
def tChain3 (r r' r'' : R2) (ta tb tc td : TE) : TE := fun σ H Q => ta σ H fun x H1 => tb σ H1 fun y H2 => r x y H2 fun z H3 => ∃ k, z = .bl k ∧
  (if k = true then tc σ H3 fun w' H4 => r' y w' H4 fun z H5 => ∃ k, z = .bl k ∧ (if k = true then td σ H5 fun w2 H6 => r'' w' w2 H6 Q else Q (.bl false) H5) else Q (.bl false) H3)
theorem pt_chain3 {op op' op'' : CmpOp} {r r' r'' : R2} {ta tb tc td : TE} (ho : OpR X (compareOp op) r) (ho' : OpR X (compareOp op') r') (ho'' : OpR X (compareOp op'') r'') (ha : PE X a ta) (hb : PE X b tb) (hc : PE X c tc) (hd : PE X d0 td)
    (hm : lastMarks [op, op', op''] [b, c, d0] = false := by with_unfolding_all rfl) : PT X (.Compare a [op, op', op''] [b, c, d0] pos) (tTest (tChain3 r r' r'' ta tb tc td)) := by
  refine ⟨fun pins s σ H Q I h => ?_⟩
  refine isTrue_chain (thn (ha.run pins s σ H _ I h) fun v s1 ⟨x, H1, I1, r1, q1⟩ => test_link (thn (hb.run pins s1 σ H1 _ I1 q1) fun u s2 ⟨y, H2, I2, r2, q2⟩ =>
    thn (ho pins s2 σ H2 x y v u _ I2 r1 r2 q2) fun d s3 ⟨z, H3, I3, r3, k, e, q3⟩ => ?_)) hm
  subst e
  cases r3
  refine wpAny_truthy_bool ?_
  cases k with
  | false =>
    obtain ⟨k', e', q'⟩ := q3
    cases e'
    exact ite_ff ⟨H3, I3, q'⟩
  | true =>
    refine ite_tt (test_link (thn (hc.run pins s3 σ H3 _ I3 q3) fun w' s4 ⟨z', H4, I4, r4, q4⟩ => thn (ho' pins s4 σ H4 y z' u w' _ I4 r2 r4 q4) fun d s5 ⟨z, H5, I5, r5, k, e, q5⟩ => ?_))
    subst e
    cases r5
    refine wpAny_truthy_bool ?_
    cases k with
    | false =>
      obtain ⟨k', e', q'⟩ := q5
      cases e'
      exact ite_ff ⟨H5, I5, q'⟩
    | true =>
      refine ite_tt (test_last (thn (hd.run pins s5 σ H5 _ I5 q5) fun w2 s6 ⟨z2, H6, I6, r6, q6⟩ => thn (ho'' pins s6 σ H6 z' z2 w' w2 _ I6 r4 r6 q6) fun d s7 ⟨z, H7, I7, r7, k, e, q7⟩ => ?_))
      subst e
      cases r7
      exact wpAny_truthy_bool ⟨H7, I7, q7⟩
theorem chain3_go {c1 c2 c3 : PyData → PyData → Rs Bool} (ne1 : ∀ x y k, c1 x y ≠ .er k) (ne2 : ∀ x y k, c2 x y ≠ .er k) (ne3 : ∀ x y k, c3 x y ≠ .er k) {K : PySem.W.Frag} {σ : L2.St} {H B : Hp} {ρ : Env} {Q : VK} (S : Stt K C B H σ ρ)
    (hh : pR C B H σ (fun b => ∀ B' H', Ext B H B' H' → Q (.bl b) H') (tCh3 c1 c2 c3 f g h k ρ)) : tChain3 (rG c1) (rG c2) (rG c3) (tE K C f) (tE K C g) (tE K C h) (tE K C k) σ H Q :=
  ⟨ρ, B, S, bindP hh fun x _ h1 v1 B1 H1 x1 t1 => ⟨ρ, B1, S.on x1, bindP (pR.on (P' := fun b => ∀ B' H', Ext B1 H1 B' H' → Q (.bl b) H') h1 x1 fun _ z B' H' y => z B' H' (x1.trans y)) fun y _ h2 v2 B2 H2 x2 t2 => by
    cases q : c1 x y with
    | ok b =>
      refine ⟨B2, x, y, b, x2.s, t1.on x2.b, t2, q, b, rfl, ?_⟩
      rw [q] at h2
      cases b with
      | false =>
        show Q (.bl false) H2
        exact h2 B2 H2 x2
      | true =>
        show tE K C h σ H2 _
        refine ⟨ρ, B2, (S.on x1).on x2, bindP (pR.on (P' := fun b => ∀ B' H', Ext B2 H2 B' H' → Q (.bl b) H') h2 x2 fun _ z B' H' y => z B' H' (x2.trans y)) fun z _ h3 v3 B3 H3 x3 t3 => ?_⟩
        cases q2 : c2 y z with
        | ok b2 =>
          refine ⟨B3, y, z, b2, x3.s, t2.on x3.b, t3, q2, b2, rfl, ?_⟩
          rw [q2] at h3
          cases b2 with
          | false =>
            show Q (.bl false) H3
            exact h3 B3 H3 x3
          | true =>
            show tE K C k σ H3 _
            refine ⟨ρ, B3, ((S.on x1).on x2).on x3, bindP (pR.on (P' := fun b => ∀ B' H', Ext B3 H3 B' H' → Q (.bl b) H') h3 x3 fun _ z B' H' y => z B' H' (x3.trans y)) fun w _ h4 v4 B4 H4 x4 t4 => ?_⟩
            cases q3 : c3 z w with
            | ok b3 =>
              rw [q3] at h4
              exact ⟨B4, z, w, b3, x4.s, t3.on x4.b, t4, q3, h4 B4 H4 x4⟩
            | er k => exact absurd q3 (ne3 z w k)
            | no => rw [q3] at h4; exact h4.elim
        | er k => exact absurd q2 (ne2 y z k)
        | no => rw [q2] at h3; exact h3.elim
    | er k => exact absurd q (ne1 x y k)
    | no => rw [q] at h2; exact h2.elim⟩⟩
theorem xt_ch3 {o1 o2 o3 : CmpOp} {c1 c2 c3 : PyData → PyData → Rs Bool} (h1 : CmOk X o1 c1) (h2 : CmOk X o2 c2) (h3 : CmOk X o3 c3) (ha : XE X C a f) (hb : XE X C b g) (hc : XE X C c h) (hd : XE X C d0 k) (hm : lastMarks [o1, o2, o3] [b, c, d0] = false := by with_unfolding_all rfl) : XT X C (.Compare a [o1, o2, o3] [b, c, d0] pos) (tCh3 c1 c2 c3 f g h k) :=
  (pt_chain3 h1.op h2.op h3.op ha hb hc hd hm).imp fun σ H Q ⟨ρ, B, S, h⟩ => chain3_go h1.ne h2.ne h3.ne S (Q := fun x H' => ∃ k, x = .bl k ∧ Q k H') (pR.on h (Ext.refl S.sm) fun b z B' H' x => ⟨b, rfl, z B' H' x⟩)
end
end MS

/-! MsLayC: in, is None, and, or, not, displays, subscripts, slices. -/
namespace MS
open PySem L2 PyProof.Rows

theorem Dt.flat {B : Hp} {v : V} {d : PyData} (h : Dt B v d) (f : flatD d = true) : flatV v = true := by
  cases h with
  | non => rfl
  | bl _ => rfl
  | int _ => rfl
  | str _ => rfl
  | lst _ _ => cases f
  | tup _ _ => cases f
theorem Dt.eqF {B : Hp} {v w : V} {d e : PyData} (h : Dt B v d) (h' : Dt B w e) (f : flatD d = true) (f' : flatD e = true) : eqV v w = PyData.eqv d e := by
  cases h with
  | lst _ _ => cases f
  | tup _ _ => cases f
  | non =>
    cases h' with
    | lst _ _ => cases f'
    | tup _ _ => cases f'
    | _ => simp [eqV, PyData.eqv]
  | bl _ =>
    cases h' with
    | lst _ _ => cases f'
    | tup _ _ => cases f'
    | _ => simp [eqV, PyData.eqv]
  | int _ =>
    cases h' with
    | lst _ _ => cases f'
    | tup _ _ => cases f'
    | _ => simp [eqV, PyData.eqv]
  | str _ =>
    cases h' with
    | lst _ _ => cases f'
    | tup _ _ => cases f'
    | _ => simp [eqV, PyData.eqv]
theorem DtAll.inV {B : Hp} {w : V} {e : PyData} (h' : Dt B w e) (f' : flatD e = true) : ∀ {vs : List V} {ds : List PyData}, DtAll B vs ds → ds.all flatD = true → vs.all flatV = true ∧ L2.inV w vs = inAny e ds
  | _, [], h, _ => by cases h; exact ⟨rfl, rfl⟩
  | _, d :: ds, h, f => by
    cases h with
    | @cons v vs _ _ h1 h2 =>
      rw [List.all_cons, Bool.and_eq_true] at f
      obtain ⟨a1, a2⟩ := DtAll.inV h' f' h2 f.2
      refine ⟨by rw [List.all_cons, h1.flat f.1, a1] <;> rfl, ?_⟩
      have a3 : (vs.any fun y => eqV y w) = ds.any fun z => PyData.eqv z e := a2
      show ((v :: vs).any fun y => eqV y w) = (d :: ds).any fun z => PyData.eqv z e
      rw [List.any_cons, List.any_cons, h1.eqF h' f.1 f', a3]
theorem map_inl {a b : List Int} (h : a.map (Sum.inl : Int → Key) = b.map Sum.inl) : a = b := List.map_inj_right (fun _ _ h => Sum.inl.inj h) |>.mp h
theorem kV_inl (ns : List Int) : (ns.map (Sum.inl : Int → Key)).map kV = ns.map V.int := by
  rw [List.map_map]; rfl
theorem KvT.get {B : Hp} {ks : List (List Key × V)} {kvs : List (List Int × PyData)} (h : KvT B ks kvs) (ns : List Int) : (match getT kvs ns with | some d => ∃ v, valV ks (ns.map Sum.inl) = some v ∧ Dt B v d | none => valV ks (ns.map Sum.inl) = none) ∧ (kvs.any fun p => decide (p.1 = ns)) = (valV ks (ns.map Sum.inl)).isSome := by
  induction h with
  | nil => exact ⟨rfl, rfl⟩
  | @cons p q ks kvs r t ih =>
    obtain ⟨k, v⟩ := p
    obtain ⟨ms, d⟩ := q
    obtain ⟨r1, r2⟩ := r
    dsimp only at r1 r2
    subst r1
    by_cases e : ms = ns
    · subst e
      have e1 : getT ((ms, d) :: kvs) ms = some d := by show (if ms = ms then some d else _) = _; rw [if_pos rfl]
      have e2 : valV ((ms.map Sum.inl, v) :: ks) (ms.map Sum.inl) = some v := by simp [valV]
      rw [e1, e2]
      exact ⟨⟨v, rfl, r2⟩, by simp⟩
    · have e1 : getT ((ms, d) :: kvs) ns = getT kvs ns := by show (if ms = ns then some d else _) = _; rw [if_neg e]
      have e2 : valV ((ms.map Sum.inl, v) :: ks) (ns.map Sum.inl) = valV ks (ns.map Sum.inl) := by
        have : ¬ ms.map (Sum.inl : Int → Key) = ns.map Sum.inl := fun q => e (map_inl q)
        simp [valV, this]
      rw [e1, e2]
      exact ⟨ih.1, by rw [List.any_cons, ih.2]; simp [e]⟩
theorem str1 {s : Str} {c : Nat} (h : s.cps.toList = [c]) : s = ⟨#[c]⟩ := by
  obtain ⟨⟨l⟩⟩ := s
  simp at h
  subst h
  rfl

section
variable {X : Cx} {C : Cc} {e a b c d0 : Expr} {es : List Expr} {f g h k : DE} {fb gb : DB} {t u : DT} {l : DL} {pos : Pos}

/-! ### in -/
def rGs (K : PySem.W.Frag) (C : Cc) (c : PyData → Sl → Rs Bool) : R2 := fun x y H Q => ∃ B d s b, Same B H ∧ Dt B x d ∧ SlV K C B H y s ∧ c d s = .ok b ∧ Q (.bl b) H
theorem cIn_ne (x : PyData) (s : Sl) (k : XK) : cIn x s ≠ .er k := by
  intro h
  unfold cIn at h
  repeat (split at h)
  all_goals first
    | cases h
    | (split at h <;> cases h)
    | (split at h <;> first | cases h | (split at h <;> cases h))
theorem in_of {n : Nat} (hr : Room n X.A) (neg : Bool) (o : CmpOp) (ho : (neg = false ∧ o = .In) ∨ (neg = true ∧ o = .NotIn)) : ∀ (pins : List (Addr × Obj)) (s : Shared) (σ : L2.St) (H : Hp) (x y : V) (v u : Value) (Q : VK), Inv X pins σ H s → RelV x v → RelV y u →
    (∃ B d sl b, Same B H ∧ Dt B x d ∧ SlV X.K C B H y sl ∧ cIn d sl = .ok b ∧ Q (.bl (if neg then !b else b)) H) → wpAny (model X.prog X.w) X.A (compareOp o v u) (EP X pins σ Q) X.xe s := by
  intro pins s σ H x y v u Q I rx ry ⟨B, d, sl, b, sm, tx, ty, q, hq⟩
  have hu65 : X.A.units + 65 < cLine := by have := hr.un; omega
  have inList : ∀ {xs : List V} {ds : List PyData} {p : Addr}, y = .ref p → H p = some (.lst xs) → DtAll B xs ds → SeqAt.shaped d = true → SeqAt.shaped (.list ds) = true → inAny d ds = b → wpAny (model X.prog X.w) X.A (compareOp o v u) (EP X pins σ Q) X.xe s := by
    intro xs ds p ep hp hd s1 s2 hb
    subst ep
    have dy : Dp X.K H (.ref p) (.list ds) := .lst (SqL.of hp) ((hd.on sm).dp ds)
    rcases ho with ⟨rfl, rfl⟩ | ⟨rfl, rfl⟩
    · refine op_inD hu65 pins s σ H x (.ref p) v u Q I rx ry ⟨d, ds, (tx.on sm).dp, dy, s1, s2, ?_⟩
      show Q (.bl (inAny d ds)) H
      rw [hb]; exact hq
    · refine op_notInD hu65 pins s σ H x (.ref p) v u Q I rx ry ⟨d, ds, (tx.on sm).dp, dy, s1, s2, ?_⟩
      show Q (.bl (!inAny d ds)) H
      rw [hb]; exact hq
  cases sl with
  | nil => exact ty.elim
  | ex k => cases q
  | sc ns => cases q
  | bx a => cases q
  | ow ds =>
    obtain ⟨p, xs, ep, z1, z2, z3, z4⟩ := ty
    obtain ⟨⟨s1, s2⟩, hb⟩ := if_ok (show (if SeqAt.shaped d = true ∧ SeqAt.shaped (.list ds) = true then Rs.ok (inAny d ds) else .no) = .ok b from q)
    exact inList ep z1 z4 s1 s2 hb
  | dc kvs =>
    obtain ⟨p, ks, ep, z1, z2, z3, z4⟩ := ty
    subst ep
    cases d with
    | tuple ds =>
      cases e1 : intsOf ds with
      | none => simp [cIn, e1] at q
      | some ns =>
        simp only [cIn, e1] at q
        have hb : (kvs.any fun p => decide (p.1 = ns)) = b := by injection q
        cases tx with
        | @tup p2 xs _ h1 h2 =>
          have a1 := h2.ints e1
          subst a1
          have hk : H p2 = some (.tup ((ns.map (Sum.inl : Int → Key)).map kV)) := by rw [kV_inl]; exact sm _ _ h1
          have gg := DGet.t (k := ns.map Sum.inl) z1 hk
          have hv := (z4.get ns).2
          rw [hb] at hv
          obtain rfl : u = Value.ref p := ry
          rcases ho with ⟨rfl, rfl⟩ | ⟨rfl, rfl⟩
          · exact d_in (hu_of hr) I gg rx fun s3 I3 => ⟨.bl b, H, I3, by show Value.bool _ = _; rw [← hv], hq⟩
          · exact d_notIn (hu_of hr) I gg rx fun s3 I3 => ⟨.bl (!b), H, I3, by show Value.bool _ = _; rw [← hv], hq⟩
    | _ => cases q
  | fz dy =>
    have ty' : Dt B y dy := ty
    cases ty' with
    | non => cases q
    | bl _ => cases q
    | int _ => cases q
    | str z =>
      cases d with
      | str z0 =>
        cases e1 : z0.cps.toList with
        | nil => simp [cIn, e1] at q
        | cons c r =>
          cases r with
          | cons _ _ => simp [cIn, e1] at q
          | nil =>
            simp only [cIn, e1] at q
            have hb : decide (c ∈ z.cps.toList) = b := by injection q
            cases tx
            have := str1 e1
            subst this
            rcases ho with ⟨rfl, rfl⟩ | ⟨rfl, rfl⟩
            · exact op_in_sign pins s σ H _ _ v u Q I rx ry ⟨c, z, rfl, rfl, by rw [hb]; exact hq⟩
            · exact op_notIn_sign pins s σ H _ _ v u Q I rx ry ⟨c, z, rfl, rfl, by rw [hb]; exact hq⟩
      | _ => cases q
    | @lst p xs ds h1 h2 =>
      obtain ⟨⟨s1, s2⟩, hb⟩ := if_ok (show (if SeqAt.shaped d = true ∧ SeqAt.shaped (.list ds) = true then Rs.ok (inAny d ds) else .no) = .ok b from q)
      exact inList rfl (sm _ _ h1) h2 s1 s2 hb
    | @tup p xs ds h1 h2 =>
      obtain ⟨⟨s1, s2⟩, hb⟩ := if_ok (show (if flatD d = true ∧ ds.all flatD = true then Rs.ok (inAny d ds) else .no) = .ok b from q)
      obtain ⟨a1, a2⟩ := DtAll.inV tx s1 h2 s2
      rcases ho with ⟨rfl, rfl⟩ | ⟨rfl, rfl⟩
      · refine op_in_seq pins s σ H _ _ v u Q I rx ry ⟨p, xs, rfl, .inr (SqT.of (sm _ _ h1)), tx.flat s1, a1, ?_⟩
        rw [a2, hb]; exact hq
      · refine op_notIn_seq pins s σ H _ _ v u Q I rx ry ⟨p, xs, rfl, .inr (SqT.of (sm _ _ h1)), tx.flat s1, a1, ?_⟩
        rw [a2, hb]; exact hq
def cNin (x : PyData) (s : Sl) : Rs Bool := (cIn x s).bind fun k => .ok (!k)
theorem or_in {n : Nat} (hr : Room n X.A) : OpR X (compareOp .In) (rGs X.K C cIn) := fun pins s σ H x y v u Q I rx ry h => in_of (C := C) hr false .In (.inl ⟨rfl, rfl⟩) pins s σ H x y v u Q I rx ry h
theorem or_nin {n : Nat} (hr : Room n X.A) : OpR X (compareOp .NotIn) (rGs X.K C cNin) := fun pins s σ H x y v u Q I rx ry ⟨B, d, sl, b, sm, tx, ty, q, hq⟩ => by
  unfold cNin at q
  cases e : cIn d sl with
  | ok b2 =>
    rw [e] at q
    have e2 : (!b2) = b := by injection q
    exact in_of (C := C) hr true .NotIn (.inr ⟨rfl, rfl⟩) pins s σ H x y v u Q I rx ry ⟨B, d, sl, b2, sm, tx, ty, e, by rw [if_pos rfl, e2]; exact hq⟩
  | er k => rw [e] at q; cases q
  | no => rw [e] at q; cases q
theorem cNin_ne (x : PyData) (s : Sl) (k : XK) : cNin x s ≠ .er k := by
  unfold cNin
  intro h
  cases e : cIn x s with
  | ok b2 => rw [e] at h; cases h
  | er k => exact cIn_ne _ _ _ e
  | no => rw [e] at h; cases h
theorem in_go {c : PyData → Sl → Rs Bool} (ne : ∀ x y k, c x y ≠ .er k) {K : PySem.W.Frag} {σ : L2.St} {H B : Hp} {ρ : Env} {Q : VK} (S : Stt K C B H σ ρ)
    (h : pR C B H σ (fun b => ∀ B' H', Ext B H B' H' → Q (.bl b) H') ((f ρ).bind fun x => (gb ρ).bind fun s => c x s)) : tOp (rGs K C c) (tE K C f) (tBo K C gb) σ H Q :=
  ⟨ρ, B, S, bindP h fun x _ h v1 B1 H1 x1 t1 => ⟨ρ, B1, S.on x1, bindP (pR.on (P' := fun b => ∀ B' H', Ext B1 H1 B' H' → Q (.bl b) H') h x1 fun _ z B' H' y => z B' H' (x1.trans y)) fun y _ h v2 B2 H2 x2 t2 => by
    cases q : c x y with
    | ok b =>
      rw [q] at h
      exact ⟨B2, x, y, b, x2.s, t1.on x2.b, t2, q, h B2 H2 x2⟩
    | er k => exact absurd q (ne x y k)
    | no => rw [q] at h; exact h.elim⟩⟩
theorem xe_cin {n : Nat} (hr : Room n X.A) (ha : XE X C a f) (hb : XB X C b gb) (hm : behindInMarks .In b = false) : XE X C (.Compare a [.In] [b] pos) (dT (tIn f gb)) :=
  xe_of_dT ((pe_cmpR (or_in hr) ha hb hm).imp fun σ H Q ⟨ρ, B, S, h⟩ => in_go cIn_ne S h)
theorem xt_cin {n : Nat} (hr : Room n X.A) (ha : XE X C a f) (hb : XB X C b gb) (hm : behindInMarks .In b = false) : XT X C (.Compare a [.In] [b] pos) (tIn f gb) :=
  (pt_cmpR (or_in hr) ha hb hm).imp fun σ H Q ⟨ρ, B, S, h⟩ => in_go cIn_ne S (Q := fun x H' => ∃ k, x = .bl k ∧ Q k H') (pR.on h (Ext.refl S.sm) fun b z B' H' x => ⟨b, rfl, z B' H' x⟩)
theorem xe_cnin {n : Nat} (hr : Room n X.A) (ha : XE X C a f) (hb : XB X C b gb) (hm : behindInMarks .NotIn b = false) : XE X C (.Compare a [.NotIn] [b] pos) (dT (tNin f gb)) :=
  xe_of_dT ((pe_cmpR (or_nin hr) ha hb hm).imp fun σ H Q ⟨ρ, B, S, h⟩ => in_go cNin_ne S h)
theorem xt_cnin {n : Nat} (hr : Room n X.A) (ha : XE X C a f) (hb : XB X C b gb) (hm : behindInMarks .NotIn b = false) : XT X C (.Compare a [.NotIn] [b] pos) (tNin f gb) :=
  (pt_cmpR (or_nin hr) ha hb hm).imp fun σ H Q ⟨ρ, B, S, h⟩ => in_go cNin_ne S (Q := fun x H' => ∃ k, x = .bl k ∧ Q k H') (pR.on h (Ext.refl S.sm) fun b z B' H' x => ⟨b, rfl, z B' H' x⟩)

/-! ### is None -/
theorem isN_of {K : PySem.W.Frag} {B H : Hp} {v : V} {s : Sl} {b : Bool} (h : SlV K C B H v s) (q : isN s = .ok b) : decide (v = .non) = b := by
  cases s with
  | fz d =>
    have h' : Dt B v d := h
    cases h' with
    | non => have q' : true = b := by injection q
             exact q'
    | _ => have q' : false = b := by injection q
           exact q'
  | ex k =>
    obtain ⟨a, rfl, _⟩ := h
    have q' : false = b := by injection q
    subst q'
    rfl
  | _ => cases q
theorem isN_ne (s : Sl) (k : XK) : isN s ≠ .er k := by cases s <;> (intro h; cases h)
theorem isn_go {K : PySem.W.Frag} {σ : L2.St} {H B : Hp} {ρ : Env} {Q : VK} (neg : Bool) (S : Stt K C B H σ ρ)
    (h : pR C B H σ (fun b => ∀ B' H', Ext B H B' H' → Q (.bl (if neg then !b else b)) H') ((fb ρ).bind isN)) : tBo K C fb σ H fun x H1 => Q (.bl (if neg then !decide (x = .non) else decide (x = .non))) H1 :=
  ⟨ρ, B, S, bindP h fun s _ h v1 B1 H1 x1 t1 => by
    cases q : isN s with
    | ok b =>
      rw [q] at h
      rw [isN_of t1 q]
      exact h B1 H1 x1
    | er k => exact absurd q (isN_ne s k)
    | no => rw [q] at h; exact h.elim⟩
theorem pe_isN {a : Expr} {ta : TE} {j} {p2 : Pos} (ha : PE X a ta) : PE X (.Compare a [.Is] [.Constant .none j p2] pos) (L2.tIsN ta) := pe_cmp (pc_isN ha) rfl
theorem pe_notN {a : Expr} {ta : TE} {j} {p2 : Pos} (ha : PE X a ta) : PE X (.Compare a [.IsNot] [.Constant .none j p2] pos) (L2.tNotN ta) := pe_cmp (pc_notN ha) rfl
theorem xe_cisn {j} {p2 : Pos} (ha : XB X C a fb) : XE X C (.Compare a [.Is] [.Constant .none j p2] pos) (dT (tIsN fb)) :=
  xe_of_dT ((pe_isN ha).imp fun σ H Q ⟨ρ, B, S, h⟩ => isn_go false S h)
theorem xt_cisn {j} {p2 : Pos} (ha : XB X C a fb) : XT X C (.Compare a [.Is] [.Constant .none j p2] pos) (tIsN fb) :=
  (pt_cmp (pc_isN ha) rfl).imp fun σ H Q ⟨ρ, B, S, h⟩ => isn_go (Q := fun x H' => ∃ k, x = .bl k ∧ Q k H') false S (pR.on h (Ext.refl S.sm) fun b z B' H' x => ⟨b, rfl, z B' H' x⟩)
theorem notn_go {K : PySem.W.Frag} {σ : L2.St} {H B : Hp} {ρ : Env} {Q : VK} (S : Stt K C B H σ ρ)
    (h : pR C B H σ (fun b => ∀ B' H', Ext B H B' H' → Q (.bl b) H') (tNotN fb ρ)) : tBo K C fb σ H fun x H1 => Q (.bl (!decide (x = .non))) H1 := by
  refine isn_go true S ?_
  unfold tNotN at h
  cases e : fb ρ with
  | ok s =>
    rw [e] at h
    have h' : pR C B H σ (fun b => ∀ B' H', Ext B H B' H' → Q (.bl b) H') ((isN s).bind fun b => .ok (!b)) := h
    exact bindP h' fun b _ h B' H' x => h B' H' x
  | er k => rw [e] at h; exact h
  | no => rw [e] at h; exact h
theorem xe_cnotn {j} {p2 : Pos} (ha : XB X C a fb) : XE X C (.Compare a [.IsNot] [.Constant .none j p2] pos) (dT (tNotN fb)) :=
  xe_of_dT ((pe_notN ha).imp fun σ H Q ⟨ρ, B, S, h⟩ => notn_go S h)
theorem xt_cnotn {j} {p2 : Pos} (ha : XB X C a fb) : XT X C (.Compare a [.IsNot] [.Constant .none j p2] pos) (tNotN fb) :=
  (pt_cmp (pc_notN ha) rfl).imp fun σ H Q ⟨ρ, B, S, h⟩ => notn_go (Q := fun x H' => ∃ k, x = .bl k ∧ Q k H') S (pR.on h (Ext.refl S.sm) fun b z B' H' x => ⟨b, rfl, z B' H' x⟩)

/-! ### and, or, not as values -/
theorem asB_of {B : Hp} {v : V} {d : PyData} {α : Type} {P : α → Prop} {H : Hp} {σ : L2.St} {F : Bool → Rs α} (h : Dt B v d) (q : pR C B H σ P ((asB d).bind F)) : ∃ b, v = .bl b ∧ d = .bool b ∧ pR C B H σ P (F b) := by
  cases h with
  | bl b => exact ⟨b, rfl, rfl, q⟩
  | _ => exact q.elim
theorem xe_one {o : BoolOp} (ha : XE X C a f) : XE X C (.BoolOp o [a] pos) f := pe_one ha
theorem xe_and (ha : XE X C a f) (hb : XE X C (.BoolOp .And (b :: es) pos) g) : XE X C (.BoolOp .And (a :: b :: es) pos) (dAnd f g) :=
  (pe_and ha hb).imp fun σ H Q ⟨ρ, B, S, h⟩ => ⟨ρ, B, S, bindP h fun x _ h v1 B1 H1 x1 t1 => by
    obtain ⟨k, rfl, rfl, h'⟩ := asB_of t1 (pE.on (Q := Q) h x1)
    refine ⟨k, rfl, ?_⟩
    cases k with
    | true => exact ⟨ρ, B1, S.on x1, h'⟩
    | false => exact h' _ B1 H1 (Ext.refl x1.s) (.bl _)⟩
theorem xe_or (ha : XE X C a f) (hb : XE X C (.BoolOp .Or (b :: es) pos) g) : XE X C (.BoolOp .Or (a :: b :: es) pos) (dOr f g) :=
  (pe_or ha hb).imp fun σ H Q ⟨ρ, B, S, h⟩ => ⟨ρ, B, S, bindP h fun x _ h v1 B1 H1 x1 t1 => by
    obtain ⟨k, rfl, rfl, h'⟩ := asB_of t1 (pE.on (Q := Q) h x1)
    refine ⟨k, rfl, ?_⟩
    cases k with
    | true => exact h' _ B1 H1 (Ext.refl x1.s) (.bl _)
    | false => exact ⟨ρ, B1, S.on x1, h'⟩⟩
theorem xe_not (ha : XE X C a f) : XE X C (.UnaryOp .Not a pos) (dNot f) :=
  (pe_not ha).imp fun σ H Q ⟨ρ, B, S, h⟩ => ⟨ρ, B, S, bindP h fun x _ h v1 B1 H1 x1 t1 => by
    obtain ⟨k, rfl, rfl, h'⟩ := asB_of t1 (pE.on (Q := Q) h x1)
    exact ⟨k, rfl, h' _ B1 H1 (Ext.refl x1.s) (.bl _)⟩⟩

/-! ### tests -/
theorem xt_w (h : XW X C e t) : XT X C e t := PW.pt h
theorem xw_and1 (ha : XT X C a t) : XW X C (.BoolOp .And [a] pos) t := pw_and1 ha
theorem xw_or1 (ha : XT X C a t) : XW X C (.BoolOp .Or [a] pos) t := pw_or1 ha
theorem xw_and (ha : XT X C a t) (hb : XW X C (.BoolOp .And (b :: es) pos) u) : XW X C (.BoolOp .And (a :: b :: es) pos) (tAnd t u) :=
  (pw_and ha hb).imp fun σ H Q ⟨ρ, B, S, h⟩ => ⟨ρ, B, S, bindP h fun k _ h B1 H1 x1 => by
    have h' := pT.on (Q := Q) h x1
    cases k with
    | true => exact ⟨ρ, B1, S.on x1, h'⟩
    | false => exact h' B1 H1 (Ext.refl x1.s)⟩
theorem xw_or (ha : XT X C a t) (hb : XW X C (.BoolOp .Or (b :: es) pos) u) : XW X C (.BoolOp .Or (a :: b :: es) pos) (tOr t u) :=
  (pw_or ha hb).imp fun σ H Q ⟨ρ, B, S, h⟩ => ⟨ρ, B, S, bindP h fun k _ h B1 H1 x1 => by
    have h' := pT.on (Q := Q) h x1
    cases k with
    | true => exact h' B1 H1 (Ext.refl x1.s)
    | false => exact ⟨ρ, B1, S.on x1, h'⟩⟩
theorem xt_not (ha : XT X C a t) : XT X C (.UnaryOp .Not a pos) (tNot t) :=
  (pt_not ha).imp fun σ H Q ⟨ρ, B, S, h⟩ => ⟨ρ, B, S, bindP h fun k _ h B1 H1 x1 => h B1 H1 x1⟩
theorem isEmpty_len {α β : Type} {xs : List α} {ys : List β} (h : xs.length = ys.length) : xs.isEmpty = ys.isEmpty := by
  cases xs <;> cases ys <;> simp_all
theorem truS_of {K : PySem.W.Frag} {B H : Hp} {v : V} {s : Sl} {b : Bool} (sm : Same B H) (h : SlV K C B H v s) (q : truS s = .ok b) : TruV K v H b := by
  cases s with
  | fz d =>
    have h' : Dt B v d := h
    cases h' with
    | non => have q' : false = b := by injection q
             exact q'.symm
    | bl k => have q' : k = b := by injection q
              exact q'.symm
    | int i => have q' : (i != 0) = b := by injection q
               exact q'.symm
    | str _ => cases q
    | @lst p xs ds h1 h2 =>
      have q' : (!ds.isEmpty) = b := by injection q
      exact .inl ⟨xs, SqL.of (sm _ _ h1), by rw [isEmpty_len h2.len]; exact q'.symm⟩
    | @tup p xs ds h1 h2 =>
      have q' : (!ds.isEmpty) = b := by injection q
      exact .inr (.inl ⟨xs, SqT.of (sm _ _ h1), by rw [isEmpty_len h2.len]; exact q'.symm⟩)
  | ow ds =>
    obtain ⟨p, xs, rfl, z1, _, _, z4⟩ := h
    have q' : (!ds.isEmpty) = b := by injection q
    exact .inl ⟨xs, SqL.of z1, by rw [isEmpty_len z4.len]; exact q'.symm⟩
  | sc ns =>
    obtain ⟨p, rfl, z⟩ := h
    have q' : (!ns.isEmpty) = b := by injection q
    exact .inl ⟨_, Sq_mono z sm, by rw [isEmpty_len (List.length_map V.int)]; exact q'.symm⟩
  | _ => cases q
theorem truS_ne (s : Sl) (k : XK) : truS s ≠ .er k := by
  intro h
  unfold truS at h
  split at h <;> cases h
theorem xt_tru (ha : XB X C a fb) (he : ∀ whole, isTrue a X.env whole = (do let v ← whole; standAt a.pos; holding [v] (truthy v)) := by intro _; rfl) : XT X C a (tTru fb) :=
  (pt_truth ha he).imp fun σ H Q ⟨ρ, B, S, h⟩ => ⟨ρ, B, S, bindP h fun s _ h v1 B1 H1 x1 t1 => by
    cases q : truS s with
    | ok b =>
      rw [q] at h
      exact ⟨b, truS_of x1.s t1 q, h B1 H1 x1⟩
    | er k => exact absurd q (truS_ne s k)
    | no => rw [q] at h; exact h.elim⟩
theorem xe_if (hc : XT X C c t) (ha : XE X C a f) (hb : XE X C b g) : XE X C (.IfExp c a b pos) (dIf t f g) :=
  (pe_ifExp hc ha hb).imp fun σ H Q ⟨ρ, B, S, h⟩ => ⟨ρ, B, S, bindP h fun k _ h B1 H1 x1 => by
    have h' := pE.on (Q := Q) h x1
    cases k with
    | true => exact ⟨ρ, B1, S.on x1, h'⟩
    | false => exact ⟨ρ, B1, S.on x1, h'⟩⟩
end
end MS

/-! MsLayD: displays, subscripts, slices, what is walked, comprehensions, len, any, all, list, tuple. -/
namespace MS
open PySem L2 PyProof.Rows

/-- the built-in names stand -/
structure Txs (mg : Str → Option Value) : Prop where
  len : mg "len" = none
  range : mg "range" = none
  sorted : mg "sorted" = none
  set : mg "set" = none
  list : mg "list" = none
  tuple : mg "tuple" = none
  any : mg "any" = none
  all : mg "all" = none
  isinstance : mg "isinstance" = none
  str : mg "str" = none
  int : mg "int" = none
  min : mg "min" = none
  max : mg "max" = none
  bool : mg "bool" = none
  val : mg "ValueError" = none

section
variable {X : Cx} {C : Cc} {e a b c d0 : Expr} {es : List Expr} {f g h k : DE} {fb gb : DB} {t u : DT} {l : DL} {pos : Pos}

/-! ### displays -/
structure XAs (X : Cx) (C : Cc) (es : List Expr) (l : DL) : Prop where
  run : PA X es (tA X.K C l)
  len : ∀ ρ ds, l ρ = .ok ds → ds.length = es.length
theorem xa_nil : XAs X C [] lNil := ⟨pa_nil.imp fun σ H Q ⟨ρ, B, S, h⟩ => h [] B H (Ext.refl S.sm) .nil, fun ρ ds h => by
  have h' : ([] : List PyData) = ds := by injection h
  subst h'; rfl⟩
theorem xa_cons (ha : XE X C a f) (hr : XAs X C es l) (hs : starEach (a :: es) X.env = (false, eval a X.env) :: starEach es X.env := by rfl) : XAs X C (a :: es) (lCons f l) :=
  ⟨(pa_cons ha hr.run hs).imp fun σ H Q ⟨ρ, B, S, h⟩ => ⟨ρ, B, S, bindP h fun x _ h v1 B1 H1 x1 t1 => ⟨ρ, B1, S.on x1, bindP (pA.on (Q := Q) h x1) fun ds _ h vs B2 H2 x2 t2 => h _ B2 H2 x2 (.cons (t1.on x2.b) t2)⟩⟩, fun ρ ds h => by
    unfold lCons at h
    cases e1 : f ρ with
    | ok x =>
      rw [e1] at h
      cases e2 : l ρ with
      | ok xs =>
        rw [Rs.bind_ok, e2] at h
        have h' : x :: xs = ds := by injection h
        subst h'
        rw [List.length_cons, List.length_cons, hr.len ρ xs e2]
      | er k => rw [Rs.bind_ok, e2] at h; cases h
      | no => rw [Rs.bind_ok, e2] at h; cases h
    | er k => rw [e1] at h; cases h
    | no => rw [e1] at h; cases h⟩
theorem xe_tup {x1} (ha : XAs X C es l) (hz : es.length ≤ 1000 := by decide) : XE X C (.Tuple es x1 pos) (dTup l) :=
  (pe_tup ha.run).imp fun σ H Q ⟨ρ, B, S, h⟩ => ⟨ρ, B, S, bindP h fun ds e h vs B1 H1 x1 t1 => ⟨by rw [t1.len, ha.len ρ ds e]; exact lim_le (Nat.le_trans hz (by decide)), fun p hp => by
    have x2 := Ext.new (o := .tup vs) x1.s hp
    exact h _ _ _ (x1.trans x2) (.tup upd_same (t1.on x2.b))⟩⟩
theorem xl_lst (ha : XAs X C es l) (hz : es.length ≤ 1000 := by decide) : XL X C (.List es pos) l :=
  (pe_lst ha.run).imp fun σ H Q ⟨ρ, B, S, h⟩ => by
    cases e : l ρ with
    | er k => exact ⟨ρ, B, S, by rw [e] at h ⊢; exact h⟩
    | no => rw [e] at h; exact h.elim
    | ok ds =>
      rw [e] at h
      refine ⟨ρ, B, S, ?_⟩
      rw [e]
      intro vs B1 H1 x1 t1
      refine ⟨by rw [t1.len, ha.len ρ ds e]; exact lim_le (Nat.le_trans hz (by decide)), fun p hp => ?_⟩
      exact h p vs B1 _ (x1.trans (Ext.raw x1.s hp)) (x1.h.free hp) (x1.s.free hp) upd_same t1
theorem lst_frz {B H B' H' : Hp} {a : Addr} {xs : List V} {ds : List PyData} (x : Ext B H B' H') (n1 : H a = none) (n2 : B' a = none) (h1 : H' a = some (.lst xs)) (t : DtAll B' xs ds) : ∃ B2, Ext B H B2 H' ∧ Dt B2 (.ref a) (.list ds) := by
  have s2 : Same B' (upd B' a (.lst xs)) := same_new n2
  refine ⟨upd B' a (.lst xs), ⟨x.b.trans s2, x.h, fun c o q => ?_, fun c o q => ?_⟩, .lst upd_same (t.on s2)⟩
  · by_cases z : c = a
    · subst z; rw [upd_same] at q; rw [h1]; exact q
    · rw [upd_ne z] at q; exact x.s _ _ q
  · by_cases z : c = a
    · subst z; exact .inr (.inl n1)
    · rw [upd_ne z] at q; exact x.n _ _ q
theorem xe_lst (ha : XL X C e l) : XE X C e (dLst l) := PE.imp ha fun σ H Q ⟨ρ, B, S, h⟩ => ⟨ρ, B, S, bindP h fun ds e h a xs B1 H1 x1 n1 n2 h1 t1 => by
  obtain ⟨B2, x2, t2⟩ := lst_frz x1 n1 n2 h1 t1
  exact h _ B2 H1 x2 t2⟩

/-! ### subscripts -/
theorem atD_eq {α : Type} (xs : List α) (i : Int) : atD xs i = atI xs i := by
  unfold atD atI ixN
  by_cases h1 : 0 ≤ i
  · rw [if_pos h1, if_pos h1]
    by_cases h2 : i < xs.length
    · rw [if_pos h2, if_pos h2]; rfl
    · rw [if_neg h2, if_neg h2]; rfl
  · rw [if_neg h1, if_neg h1]
    by_cases h2 : -(xs.length : Int) ≤ i
    · rw [if_pos h2, if_pos h2]; rfl
    · rw [if_neg h2, if_neg h2]; rfl
theorem DtAll.at {B : Hp} {vs : List V} {ds : List PyData} {i : Int} {d : PyData} (h : DtAll B vs ds) (e : atD ds i = some d) : ∃ v, atI vs i = some v ∧ Dt B v d := by
  rw [atD_eq] at e
  unfold atI at e ⊢
  rw [h.len]
  cases q : ixN ds.length i with
  | none => rw [q] at e; cases e
  | some j =>
    rw [q] at e
    exact h.getD e
theorem atD_map {α β : Type} (F : α → β) (xs : List α) (i : Int) : atD (xs.map F) i = (atD xs i).map F := by
  unfold atD
  rw [List.length_map]
  split
  · split
    · rw [List.getElem?_map]
    · rfl
  · split
    · rw [List.getElem?_map]
    · rfl
theorem ix_of {K : PySem.W.Frag} {B H : Hp} {σ : L2.St} {v w : V} {s : Sl} {d : PyData} {Q : VK} (sm : Same B H) (h : SlV K C B H v s) (hi : Dt B w d) (q : pE C B H σ Q (ixS s d)) : rIx K v w H Q := by
  have fin : ∀ {o : Option PyData}, pE C B H σ Q (ofO o) → ∃ d, o = some d ∧ pE C B H σ Q (.ok d) := fun {o} z => by
    cases o with
    | none => exact z.elim
    | some d => exact ⟨d, rfl, z⟩
  cases hi with
  | int i =>
    cases s with
    | fz dy =>
      have h' : Dt B v dy := h
      cases h' with
      | @lst p xs ds h1 h2 =>
        obtain ⟨d, e, q'⟩ := fin (show pE C B H σ Q (ofO (atD ds i)) from q)
        obtain ⟨x, hx, tx⟩ := h2.at e
        exact .inl ⟨p, xs, i, x, rfl, rfl, SqL.of (sm _ _ h1), hx, q' x B H (Ext.refl sm) tx⟩
      | @tup p xs ds h1 h2 =>
        obtain ⟨d, e, q'⟩ := fin (show pE C B H σ Q (ofO (atD ds i)) from q)
        obtain ⟨x, hx, tx⟩ := h2.at e
        exact .inr (.inl ⟨p, xs, i, x, rfl, rfl, SqT.of (sm _ _ h1), hx, q' x B H (Ext.refl sm) tx⟩)
      | str z =>
        have q1 : pE C B H σ Q (if z.length ≤ lim then (ofO (atD z.cps.toList i)).bind fun c => .ok (.str ⟨#[c]⟩) else .no) := q
        by_cases hz : z.length ≤ lim
        · rw [if_pos hz] at q1
          cases e : atD z.cps.toList i with
          | none => rw [e] at q1; exact q1.elim
          | some c =>
            rw [e] at q1
            exact .inr (.inr ⟨z, i, c, rfl, rfl, lim_le hz, by rw [← atD_eq]; exact e, q1 _ B H (Ext.refl sm) (.str _)⟩)
        · rw [if_neg hz] at q1
          exact q1.elim
      | _ => exact q.elim
    | ow ds =>
      obtain ⟨p, xs, rfl, z1, _, _, z4⟩ := h
      obtain ⟨d, e, q'⟩ := fin (show pE C B H σ Q (ofO (atD ds i)) from q)
      obtain ⟨x, hx, tx⟩ := z4.at e
      exact .inl ⟨p, xs, i, x, rfl, rfl, SqL.of z1, hx, q' x B H (Ext.refl sm) tx⟩
    | sc ns =>
      obtain ⟨p, rfl, z⟩ := h
      have q1 : pE C B H σ Q ((ofO (atD ns i)).bind fun n => .ok (.int n)) := q
      cases e : atD ns i with
      | none => rw [e] at q1; exact q1.elim
      | some n =>
        rw [e] at q1
        exact .inl ⟨p, _, i, .int n, rfl, rfl, Sq_mono z sm, by rw [← atD_eq, atD_map, e]; rfl, q1 _ B H (Ext.refl sm) (.int _)⟩
    | nil => exact h.elim
    | ex k => exact q.elim
    | bx _ => exact q.elim
    | dc _ => exact q.elim
  | _ => cases s <;> first | exact q.elim | (rename_i d; cases d <;> exact q.elim)
theorem xe_ix (ha : XB X C a fb) (hb : XE X C b g) (hs : PlainIx b := by intro _ _; rfl) : XE X C (.Subscript a b pos) (dIx fb g) :=
  (pe_ix ix_seq ha hb hs).imp fun σ H Q ⟨ρ, B, S, h⟩ => ⟨ρ, B, S, bindP h fun s _ h v1 B1 H1 x1 t1 => ⟨ρ, B1, S.on x1, bindP (pE.on (Q := Q) h x1) fun d _ h v2 B2 H2 x2 t2 => ix_of x2.s (t1.on x2) t2 (pE.on (Q := Q) h x2)⟩⟩

/-! ### slices -/
theorem sIx_eq (n d : Nat) (o : Option Int) : sIx n d o = HT.sIx n d o := by
  cases o <;> rfl
def pO (C : Cc) (B H : Hp) (σ : L2.St) (Q : Option Int → Hp → Prop) : Rs (Option Int) → Prop := pR C B H σ fun o => ∀ B' H', Ext B H B' H' → Q o H'
def tO (K : PySem.W.Frag) (C : Cc) (f : DO) : TO := fun σ H Q => ∃ ρ B, Stt K C B H σ ρ ∧ pO C B H σ Q (f ρ)
def XO (X : Cx) (C : Cc) (e : Option Expr) (f : DO) : Prop := PO X e (tO X.K C f)
theorem _root_.L2.PO.imp {X : Cx} {e : Option Expr} {t u : TO} (h : PO X e t) (k : ∀ σ H Q, u σ H Q → t σ H Q) : PO X e u := ⟨fun pins s σ H Q I hq => h.run pins s σ H Q I (k σ H Q hq)⟩
theorem xo_n : XO X C none oN := po_none.imp fun σ H Q ⟨ρ, B, S, h⟩ => h B H (Ext.refl S.sm)
theorem xo_e (ha : XE X C a f) : XO X C (some a) (oE f) := (po_some ha).imp fun σ H Q ⟨ρ, B, S, h⟩ => ⟨ρ, B, S, bindP h fun d _ h v1 B1 H1 x1 t1 => by
  cases t1 with
  | int i => exact ⟨i, rfl, h B1 H1 x1⟩
  | _ => exact h.elim⟩
theorem xe_sl {lo hi : Option Expr} {fl fh : DO} {p2 : Pos} (ha : XE X C a f) (hl : XO X C lo fl) (hh : XO X C hi fh) : XE X C (.Subscript a (.Slice lo hi none p2) pos) (dSl f fl fh) :=
  (pe_slice (sl_list.or (sl_tupA.or sl_str)) ha hl hh).imp fun σ H Q ⟨ρ, B, S, h⟩ => ⟨ρ, B, S, bindP h fun d _ h v1 B1 H1 x1 t1 => ⟨ρ, B1, S.on x1, bindP (pE.on (Q := Q) h x1) fun lo _ h B2 H2 x2 =>
    ⟨ρ, B2, (S.on x1).on x2, bindP (pE.on (Q := Q) h x2) fun hi _ h B3 H3 x3 => by
      have h' := pE.on (Q := Q) h x3
      have t3 := (t1.on x2.b).on x3.b
      have sm := x3.s
      cases t3 with
      | @lst p xs ds h1 h2 =>
        refine .inl ⟨p, xs, rfl, SqL.of (sm _ _ h1), fun q hq => ?_⟩
        have x4 := Ext.new (o := .lst (cutV xs lo hi)) sm hq
        refine h' _ _ _ x4 (.lst upd_same (DtAll.on ?_ x4.b))
        unfold cutV cutD
        rw [h2.len, ← sIx_eq, ← sIx_eq]
        exact (h2.drop _).take _
      | @tup p xs ds h1 h2 =>
        have hc : DtAll B3 (cutV xs lo hi) (cutD ds lo hi) := by
          unfold cutV cutD
          rw [h2.len, ← sIx_eq, ← sIx_eq]
          exact (h2.drop _).take _
        refine .inr (.inl ⟨p, xs, rfl, SqT.of (sm _ _ h1), fun hw => ?_, fun _ q hq => ?_⟩)
        · have e : cutD ds lo hi = ds := by
            unfold cutD
            rw [h2.len, ← sIx_eq, ← sIx_eq] at hw
            rw [hw.1, hw.2]
            simp
          have h2' : pE C B3 H3 σ Q (.ok (.tuple (cutD ds lo hi))) := h'
          rw [e] at h2'
          exact h2' _ B3 H3 (Ext.refl sm) (.tup h1 h2)
        · have x4 := Ext.new (o := .tup (cutV xs lo hi)) sm hq
          exact h' _ _ _ x4 (.tup upd_same (hc.on x4.b))
      | str z =>
        have h2' : pE C B3 H3 σ Q (if z.length ≤ lim then .ok (.str ⟨(cutD z.cps.toList lo hi).toArray⟩) else .no) := h'
        by_cases hz : z.length ≤ lim
        · rw [if_pos hz] at h2'
          refine .inr (.inr ⟨z, rfl, lim_le hz, ?_⟩)
          have e : cutS z lo hi = ⟨(cutD z.cps.toList lo hi).toArray⟩ := by
            unfold cutS cutD
            have hzl : z.cps.toList.length = z.length := by simp [Str.length]
            rw [hzl, ← sIx_eq, ← sIx_eq]
          rw [e]
          exact h2' _ B3 H3 (Ext.refl sm) (.str _)
        · rw [if_neg hz] at h2'
          exact h2'.elim
      | _ => exact h'.elim⟩⟩⟩
theorem xe_rev {p1 p2 p3 : Pos} {j} (ha : XE X C a f) : XE X C (.Subscript a (.Slice none none (some (.UnaryOp .USub (.Constant (.int 1) j p1) p2)) p3) pos) (dRev f) :=
  (pe_revL ha).imp fun σ H Q ⟨ρ, B, S, h⟩ => ⟨ρ, B, S, bindP h fun d _ h v1 B1 H1 x1 t1 => by
    cases t1 with
    | @lst p xs ds h1 h2 =>
      refine ⟨p, xs, rfl, SqL.of (x1.s _ _ h1), fun q hq => ?_⟩
      have x4 := Ext.new (o := .lst xs.reverse) x1.s hq
      exact h _ _ _ (x1.trans x4) (.lst upd_same (h2.rev.on x4.b))
    | _ => exact h.elim⟩

/-! ### built-ins over sequences -/
theorem lenS_of {K : PySem.W.Frag} {B H : Hp} {σ : L2.St} {v : V} {s : Sl} {Q : VK} (sm : Same B H) (h : SlV K C B H v s) (q : pE C B H σ Q (lenS s)) : ∃ n, LenV K v H n ∧ Q (.int n) H := by
  cases s with
  | fz d =>
    have h' : Dt B v d := h
    cases h' with
    | @lst p xs ds h1 h2 => exact ⟨ds.length, .inl ⟨xs, SqL.of (sm _ _ h1), h2.len.symm⟩, q _ B H (Ext.refl sm) (.int _)⟩
    | @tup p xs ds h1 h2 => exact ⟨ds.length, .inr ⟨xs, SqT.of (sm _ _ h1), h2.len.symm⟩, q _ B H (Ext.refl sm) (.int _)⟩
    | str z =>
      have q1 : pE C B H σ Q (if z.length ≤ lim then .ok (.int z.length) else .no) := q
      by_cases hz : z.length ≤ lim
      · rw [if_pos hz] at q1
        exact ⟨z.length, ⟨lim_le hz, rfl⟩, q1 _ B H (Ext.refl sm) (.int _)⟩
      · rw [if_neg hz] at q1
        exact q1.elim
    | _ => exact q.elim
  | ow ds =>
    obtain ⟨p, xs, rfl, z1, _, _, z4⟩ := h
    exact ⟨ds.length, .inl ⟨xs, SqL.of z1, z4.len.symm⟩, q _ B H (Ext.refl sm) (.int _)⟩
  | sc ns =>
    obtain ⟨p, rfl, z⟩ := h
    exact ⟨ns.length, .inl ⟨_, Sq_mono z sm, by rw [List.length_map]⟩, q _ B H (Ext.refl sm) (.int _)⟩
  | bx a => exact q.elim
  | nil => exact h.elim
  | ex k => exact q.elim
  | dc _ => exact q.elim
variable {p : Pos}
theorem xe_len (T : Txs X.mg) (ha : XB X C a fb) (hg : Gl X "len" := by rfl) (he : starEach (a :: []) X.env = (false, eval a X.env) :: starEach [] X.env := by rfl) (hpl : (backTo pos (starEach [] X.env)).any (·.1) = false := by rfl) : XE X C (.Call (.Name "len" p) [a] [] pos) (dLen fb) :=
  (pe_callB call_len hg T.len PySem.boot_len (pa_cons ha pa_nil he) (he := he) (hpl := hpl)).imp fun σ H Q ⟨ρ, B, S, h⟩ => ⟨ρ, B, S, bindP h fun s _ h v1 B1 H1 x1 t1 => by
    obtain ⟨n, h1, h2⟩ := lenS_of x1.s t1 (pE.on (Q := Q) h x1)
    exact ⟨v1, n, rfl, h1, h2⟩⟩
theorem xe_any (T : Txs X.mg) (ha : XE X C a f) (hc : X.calm = true := by rfl) (hg : Gl X "any" := by rfl) (he : starEach (a :: []) X.env = (false, eval a X.env) :: starEach [] X.env := by rfl) (hpl : (backTo pos (starEach [] X.env)).any (·.1) = false := by rfl) : XE X C (.Call (.Name "any" p) [a] [] pos) (dAny f) :=
  (pe_callB (cr_any hc) hg T.any (by decide +kernel) (pa_cons ha pa_nil he) (he := he) (hpl := hpl)).imp fun σ H Q ⟨ρ, B, S, h⟩ => ⟨ρ, B, S, bindP h fun d _ h v1 B1 H1 x1 t1 => by
    have h' := pE.on (Q := Q) h x1
    cases t1 with
    | @lst q xs ds h1 h2 =>
      cases e : boolsOf ds with
      | none => simp only [anyD, e, ofO, Rs.bind_no] at h'; exact h'.elim
      | some bs =>
        simp only [anyD, e, ofO, Rs.bind_ok] at h'
        have := h2.bools e
        subst this
        exact ⟨q, bs, rfl, SqL.of (x1.s _ _ h1), h' _ B1 H1 (Ext.refl x1.s) (.bl _)⟩
    | _ => exact h'.elim⟩
theorem xe_all (T : Txs X.mg) (ha : XE X C a f) (hc : X.calm = true := by rfl) (hg : Gl X "all" := by rfl) (he : starEach (a :: []) X.env = (false, eval a X.env) :: starEach [] X.env := by rfl) (hpl : (backTo pos (starEach [] X.env)).any (·.1) = false := by rfl) : XE X C (.Call (.Name "all" p) [a] [] pos) (dAll f) :=
  (pe_callB (cr_all hc) hg T.all (by decide +kernel) (pa_cons ha pa_nil he) (he := he) (hpl := hpl)).imp fun σ H Q ⟨ρ, B, S, h⟩ => ⟨ρ, B, S, bindP h fun d _ h v1 B1 H1 x1 t1 => by
    have h' := pE.on (Q := Q) h x1
    cases t1 with
    | @lst q xs ds h1 h2 =>
      cases e : boolsOf ds with
      | none => simp only [allD, e, ofO, Rs.bind_no] at h'; exact h'.elim
      | some bs =>
        simp only [allD, e, ofO, Rs.bind_ok] at h'
        have := h2.bools e
        subst this
        exact ⟨q, bs, rfl, SqL.of (x1.s _ _ h1), h' _ B1 H1 (Ext.refl x1.s) (.bl _)⟩
    | _ => exact h'.elim⟩
theorem xl_list (T : Txs X.mg) (ha : XB X C a fb) (hg : Gl X "list" := by rfl) (he : starEach (a :: []) X.env = (false, eval a X.env) :: starEach [] X.env := by rfl) (hpl : (backTo pos (starEach [] X.env)).any (·.1) = false := by rfl) : XL X C (.Call (.Name "list" p) [a] [] pos) (lList fb) :=
  (pe_callTy call_list_of hg T.list (by decide +kernel) (pa_cons ha pa_nil he) (he := he) (hpl := hpl)).imp fun σ H Q ⟨ρ, B, S, h⟩ => ⟨ρ, B, S, bindP h fun s _ h v1 B1 H1 x1 t1 => by
    have h' := pL.on (Q := Q) h x1
    have fin : ∀ {xs : List V} {ds : List PyData}, DtAll B1 xs ds → pL C B1 H1 σ Q (.ok ds) → ∀ l, H1 l = none → Q (.ref l) (upd H1 l (.lst xs)) := fun {xs ds} t z l hl => z l xs B1 _ (Ext.raw x1.s hl) hl (x1.s.free hl) upd_same t
    cases s with
    | fz d =>
      have t1' : Dt B1 v1 d := t1
      cases t1' with
      | @lst q xs ds h1 h2 => exact ⟨q, xs, rfl, .inl (SqL.of (x1.s _ _ h1)), fin h2 h'⟩
      | @tup q xs ds h1 h2 => exact ⟨q, xs, rfl, .inr (SqT.of (x1.s _ _ h1)), fin h2 h'⟩
      | _ => exact h'.elim
    | ow ds =>
      obtain ⟨q, xs, rfl, z1, _, _, z4⟩ := t1
      exact ⟨q, xs, rfl, .inl (SqL.of z1), fin z4 h'⟩
    | nil => exact t1.elim
    | ex k => exact h'.elim
    | sc _ => exact h'.elim
    | bx _ => exact h'.elim
    | dc _ => exact h'.elim⟩
theorem xe_tuple (T : Txs X.mg) (ha : XE X C a f) (hg : Gl X "tuple" := by rfl) (he : starEach (a :: []) X.env = (false, eval a X.env) :: starEach [] X.env := by rfl) (hpl : (backTo pos (starEach [] X.env)).any (·.1) = false := by rfl) : XE X C (.Call (.Name "tuple" p) [a] [] pos) (dTuple f) :=
  (pe_callTy call_tuple_of hg T.tuple (by decide +kernel) (pa_cons ha pa_nil he) (he := he) (hpl := hpl)).imp fun σ H Q ⟨ρ, B, S, h⟩ => ⟨ρ, B, S, bindP h fun d _ h v1 B1 H1 x1 t1 => by
    have h' := pE.on (Q := Q) h x1
    cases t1 with
    | @lst q xs ds h1 h2 =>
      refine ⟨q, xs, rfl, .inl ⟨SqL.of (x1.s _ _ h1), fun l hl => ?_⟩⟩
      have x4 := Ext.new (o := .tup xs) x1.s hl
      exact h' _ _ _ x4 (.tup upd_same (h2.on x4.b))
    | @tup q xs ds h1 h2 => exact ⟨q, xs, rfl, .inr ⟨SqT.of (x1.s _ _ h1), h' _ B1 H1 (Ext.refl x1.s) (.tup h1 h2)⟩⟩
    | _ => exact h'.elim⟩
end
end MS

/-! MsLayE: what is walked, targets, comprehensions. -/
namespace MS
open PySem L2 PyProof.Rows

/-! ### walks -/
/-- the iterator J yields ds: in every state that bears P -/
def Walk (J : It) (P : Hp → Hp → Prop) (ds : List PyData) : Prop := ∀ B H, P B H → Same B H → ∀ i : Nat, (ds.length ≤ i → J.stop i H) ∧ ∀ d, ds[i]? = some d → J.go i H ∧ ∀ x H', J.yld i H x H' → ∃ B', Ext B H B' H' ∧ Dt B' x d
/-- .. as long as the frozen part stays | as long as nothing changes -/
def pI (C : Cc) (B H : Hp) (σ : L2.St) (R : It → Hp → Prop) : Rs (List PyData) → Prop := pR C B H σ fun ds => ∀ J B1 H1, Ext B H B1 H1 → Walk J (fun B' _ => Same B1 B') ds → R J H1
def pIb (C : Cc) (B H : Hp) (σ : L2.St) (R : It → Hp → Prop) : Rs (List PyData) → Prop := pR C B H σ fun ds => ∀ J B1 H1, Ext B H B1 H1 → Walk J (fun B' H' => Ext B1 H1 B' H') ds → R J H1
def tI (K : PySem.W.Frag) (C : Cc) (f : DL) : TI := fun σ H R => ∃ ρ B, Stt K C B H σ ρ ∧ pI C B H σ R (f ρ)
def tIb (K : PySem.W.Frag) (C : Cc) (f : DL) : TI := fun σ H R => ∃ ρ B, Stt K C B H σ ρ ∧ pIb C B H σ R (f ρ)
def XI (X : Cx) (C : Cc) (tg e : Expr) (f : DL) : Prop := PI X tg e (tI X.K C f)
def XIb (X : Cx) (C : Cc) (tg e : Expr) (f : DL) : Prop := PI X tg e (tIb X.K C f)
theorem _root_.L2.PI.imp {X : Cx} {tg e : Expr} {t u : TI} (h : PI X tg e t) (k : ∀ σ H R, u σ H R → t σ H R) : PI X tg e u := ⟨fun pins s σ H R I hq => h.run pins s σ H R I (k σ H R hq)⟩
theorem pi_or {X : Cx} {tg e : Expr} {t u : TI} (h : PI X tg e t) (h' : PI X tg e u) : PI X tg e (fun σ H R => t σ H R ∨ u σ H R) := ⟨fun pins s σ H R I hq => hq.elim (h.run pins s σ H R I) (h'.run pins s σ H R I)⟩
theorem Walk.weak {J : It} {P P' : Hp → Hp → Prop} {ds : List PyData} (h : Walk J P ds) (k : ∀ B H, P' B H → P B H) : Walk J P' ds := fun B H p => h B H (k B H p)
theorem walk_list {K : PySem.W.Frag} {a : Addr} {xs : List V} {ds : List PyData} {P : Hp → Hp → Prop} (h : ∀ B H, P B H → Same B H → SqL K H a xs ∧ DtAll B xs ds) (uniq : ∀ B H, P B H → Same B H → ∀ ys, SqL K H a ys → ys = xs) : Walk (Itl K a) P ds := fun B H p sm i => by
  obtain ⟨h1, h2⟩ := h B H p sm
  refine ⟨fun hl => ⟨xs, h1, by rw [h2.len]; exact hl⟩, fun d hd => ?_⟩
  obtain ⟨v, hv, tv⟩ := h2.getD hd
  refine ⟨⟨xs, v, h1, hv⟩, fun x H' y => ?_⟩
  obtain ⟨rfl, y⟩ := y
  have := y xs h1
  rw [hv] at this
  cases this
  exact ⟨B, Ext.refl sm, tv⟩
theorem walk_list' {K : PySem.W.Frag} {a : Addr} {xs : List V} {ds : List PyData} {P : Hp → Hp → Prop} (h : ∀ B H, P B H → Same B H → H a = some (.lst xs) ∧ DtAll B xs ds) : Walk (Itl K a) P ds := fun B H p sm i => by
  obtain ⟨h1, h2⟩ := h B H p sm
  refine ⟨fun hl => ⟨xs, SqL.of h1, by rw [h2.len]; exact hl⟩, fun d hd => ?_⟩
  obtain ⟨v, hv, tv⟩ := h2.getD hd
  refine ⟨⟨xs, v, SqL.of h1, hv⟩, fun x H' y => ?_⟩
  obtain ⟨rfl, y⟩ := y
  have := y xs (SqL.of h1)
  rw [hv] at this
  cases this
  exact ⟨B, Ext.refl sm, tv⟩
theorem walk_tup {K : PySem.W.Frag} {a : Addr} {xs : List V} {ds : List PyData} {P : Hp → Hp → Prop} (h : ∀ B H, P B H → Same B H → H a = some (.tup xs) ∧ DtAll B xs ds) : Walk (Itt K a) P ds := fun B H p sm i => by
  obtain ⟨h1, h2⟩ := h B H p sm
  refine ⟨fun hl => ⟨xs, SqT.of h1, by rw [h2.len]; exact hl⟩, fun d hd => ?_⟩
  obtain ⟨v, hv, tv⟩ := h2.getD hd
  refine ⟨⟨xs, v, SqT.of h1, hv⟩, fun x H' y => ?_⟩
  obtain ⟨rfl, y⟩ := y
  have := y xs (SqT.of h1)
  rw [hv] at this
  cases this
  exact ⟨B, Ext.refl sm, tv⟩
theorem rngD_get {lo : Int} {n i : Nat} {d : PyData} (h : (rngD lo n)[i]? = some d) : i < n ∧ d = .int (lo + (i : Int)) := by
  unfold rngD at h
  rw [List.getElem?_map] at h
  cases e : (List.range n)[i]? with
  | none => rw [e] at h; cases h
  | some j =>
    rw [e] at h
    obtain ⟨h1, h2⟩ := List.getElem?_eq_some_iff.mp e
    rw [List.getElem_range] at h2
    subst h2
    rw [List.length_range] at h1
    have h3 : PyData.int (lo + (i : Int)) = d := Option.some.inj h
    exact ⟨h1, h3.symm⟩
theorem rngD_len (lo : Int) (n : Nat) : (rngD lo n).length = n := by simp [rngD]
theorem walk_rng {lo : Int} {n : Nat} {P : Hp → Hp → Prop} : Walk (Itr lo n) P (rngD lo n) := fun B H p sm i => by
  refine ⟨fun hl => by rw [rngD_len] at hl; exact hl, fun d hd => ?_⟩
  obtain ⟨h1, rfl⟩ := rngD_get hd
  refine ⟨h1, fun x H' y => ?_⟩
  obtain ⟨rfl, rfl⟩ := y
  exact ⟨B, Ext.refl sm, .int _⟩
theorem walk_str {z : Str} {P : Hp → Hp → Prop} : Walk (Its z) P (z.cps.toList.map fun c => .str ⟨#[c]⟩) := fun B H p sm i => by
  refine ⟨fun hl => by
    rw [List.length_map, Array.length_toList] at hl
    exact hl, fun d hd => ?_⟩
  rw [List.getElem?_map] at hd
  cases e : z.cps.toList[i]? with
  | none => rw [e] at hd; cases hd
  | some c =>
    rw [e] at hd
    have hd' : PyData.str ⟨#[c]⟩ = d := Option.some.inj hd
    subst hd'
    have hi : i < z.cps.size := by
      have := (List.getElem?_eq_some_iff.mp e).1
      simpa using this
    refine ⟨hi, fun x H' y => ?_⟩
    obtain ⟨rfl, c', hc, rfl⟩ := y
    have e2 : z.cps[i]? = some c := by rw [← Array.getElem?_toList]; exact e
    rw [e2] at hc
    cases hc
    exact ⟨B, Ext.refl sm, .str _⟩

section
variable {X : Cx} {C : Cc} {tg e a b : Expr} {es : List Expr} {f g : DE} {fb : DB} {l : DL} {pos p : Pos}
/-- a list, a tuple, a text, frozen -/
theorem xi_seq (ha : XE X C a f) : XI X C tg a (iSeq (bOf f)) :=
  (pi_or (pi_list (tg := tg) ha) (pi_or (pi_tup (tg := tg) ha) (pi_str (tg := tg) ha))).imp fun σ H R ⟨ρ, B, S, h⟩ => by
    have h1 : pI C B H σ R ((f ρ).bind fun d => itS (.fz d)) := by
      have e : iSeq (bOf f) ρ = (f ρ).bind fun d => itS (.fz d) := by
        unfold iSeq bOf
        cases f ρ <;> rfl
      rw [← e]; exact h
    cases e : f ρ with
    | er k => exact .inl ⟨ρ, B, S, by rw [e] at h1 ⊢; exact h1⟩
    | no => rw [e] at h1; exact h1.elim
    | ok d =>
      rw [e] at h1
      cases d with
      | list ds =>
        refine .inl ⟨ρ, B, S, ?_⟩
        rw [e]
        intro v B1 H1 x1 t1
        cases t1 with
        | @lst q xs _ z1 z2 => exact ⟨q, rfl, ⟨xs, SqL.of (x1.s _ _ z1)⟩, h1 _ B1 H1 x1 (walk_list' fun B' H' sb sm => ⟨sm _ _ (sb _ _ z1), z2.on sb⟩)⟩
      | tuple ds =>
        refine .inr (.inl ⟨ρ, B, S, ?_⟩)
        rw [e]
        intro v B1 H1 x1 t1
        cases t1 with
        | @tup q xs _ z1 z2 => exact ⟨q, rfl, ⟨xs, SqT.of (x1.s _ _ z1)⟩, h1 _ B1 H1 x1 (walk_tup fun B' H' sb sm => ⟨sm _ _ (sb _ _ z1), z2.on sb⟩)⟩
      | str z =>
        refine .inr (.inr ⟨ρ, B, S, ?_⟩)
        rw [e]
        intro v B1 H1 x1 t1
        cases t1
        have h2 : pI C B H σ R (if z.length ≤ lim then .ok (z.cps.toList.map fun c => .str ⟨#[c]⟩) else .no) := h1
        by_cases hz : z.length ≤ lim
        · rw [if_pos hz] at h2
          exact ⟨z, rfl, h2 _ B1 H1 x1 walk_str⟩
        · rw [if_neg hz] at h2
          exact h2.elim
      | none => exact h1.elim
      | bool _ => exact h1.elim
      | int _ => exact h1.elim
      | dict _ => exact h1.elim
/-- .. or one's own list, for a comprehension -/
theorem xib_seq (ha : XB X C a fb) : XIb X C tg a (iSeq fb) :=
  (pi_or (pi_list (tg := tg) ha) (pi_or (pi_tup (tg := tg) ha) (pi_str (tg := tg) ha))).imp fun σ H R ⟨ρ, B, S, h⟩ => by
    have h1 : pIb C B H σ R ((fb ρ).bind itS) := h
    cases e : fb ρ with
    | er k => exact .inl ⟨ρ, B, S, by rw [e] at h1 ⊢; exact h1⟩
    | no => rw [e] at h1; exact h1.elim
    | ok s =>
      rw [e] at h1
      cases s with
      | ow ds =>
        refine .inl ⟨ρ, B, S, ?_⟩
        rw [e]
        intro v B1 H1 x1 t1
        obtain ⟨q, xs, rfl, z1, z2, z3, z4⟩ := t1
        exact ⟨q, rfl, ⟨xs, SqL.of z1⟩, h1 _ B1 H1 x1 (walk_list' fun B' H' sb sm => ⟨sb.h _ _ z1, z4.on sb.b⟩)⟩
      | fz d =>
        cases d with
        | list ds =>
          refine .inl ⟨ρ, B, S, ?_⟩
          rw [e]
          intro v B1 H1 x1 t1
          have t1' : Dt B1 v (.list ds) := t1
          cases t1' with
          | @lst q xs _ z1 z2 => exact ⟨q, rfl, ⟨xs, SqL.of (x1.s _ _ z1)⟩, h1 _ B1 H1 x1 (walk_list' fun B' H' sb sm => ⟨sm _ _ (sb.b _ _ z1), z2.on sb.b⟩)⟩
        | tuple ds =>
          refine .inr (.inl ⟨ρ, B, S, ?_⟩)
          rw [e]
          intro v B1 H1 x1 t1
          have t1' : Dt B1 v (.tuple ds) := t1
          cases t1' with
          | @tup q xs _ z1 z2 => exact ⟨q, rfl, ⟨xs, SqT.of (x1.s _ _ z1)⟩, h1 _ B1 H1 x1 (walk_tup fun B' H' sb sm => ⟨sm _ _ (sb.b _ _ z1), z2.on sb.b⟩)⟩
        | str z =>
          refine .inr (.inr ⟨ρ, B, S, ?_⟩)
          rw [e]
          intro v B1 H1 x1 t1
          have t1' : Dt B1 v (.str z) := t1
          cases t1'
          have h2 : pIb C B H σ R (if z.length ≤ lim then .ok (z.cps.toList.map fun c => .str ⟨#[c]⟩) else .no) := h1
          by_cases hz : z.length ≤ lim
          · rw [if_pos hz] at h2
            exact ⟨z, rfl, h2 _ B1 H1 x1 walk_str⟩
          · rw [if_neg hz] at h2
            exact h2.elim
        | none => exact h1.elim
        | bool _ => exact h1.elim
        | int _ => exact h1.elim
        | dict _ => exact h1.elim
      | nil => exact h1.elim
      | ex _ => exact h1.elim
      | sc _ => exact h1.elim
      | bx _ => exact h1.elim
      | dc _ => exact h1.elim
theorem xi_b (h : XI X C tg e l) : XIb X C tg e l := PI.imp h fun σ H R ⟨ρ, B, S, h⟩ => ⟨ρ, B, S, pR.on h (Ext.refl S.sm) fun ds z J B1 H1 x1 w => z J B1 H1 x1 (w.weak fun B' H' y => y.b)⟩
theorem xi_rng1 (T : Txs X.mg) (ha : XE X C a f) (hg : Gl X "range" := by rfl) (hs : starEach [a] X.env = [(false, eval a X.env)] := by rfl) : XI X C tg (.Call (.Name "range" p) [a] [] pos) (iR1 f) :=
  (pi_range1 hg T.range (pa_cons ha pa_nil (by rw [hs]; rfl)) hs).imp fun σ H R ⟨ρ, B, S, h⟩ => ⟨ρ, B, S, bindP h fun d _ h v1 B1 H1 x1 t1 => by
    cases t1 with
    | int n =>
      have h2 : pI C B H σ R (if -1000000 ≤ n ∧ n ≤ 1000000 then .ok (rngD 0 n.toNat) else .no) := h
      by_cases hz : -1000000 ≤ n ∧ n ≤ 1000000
      · rw [if_pos hz] at h2
        exact ⟨n, rfl, by omega, by omega, h2 _ B1 H1 x1 walk_rng⟩
      · rw [if_neg hz] at h2
        exact h2.elim
    | _ => exact h.elim⟩
theorem xi_rng2 (T : Txs X.mg) (ha : XE X C a f) (hb : XE X C b g) (hg : Gl X "range" := by rfl) (hs : starEach [a, b] X.env = [(false, eval a X.env), (false, eval b X.env)] := by rfl) (hs2 : starEach [b] X.env = [(false, eval b X.env)] := by rfl) : XI X C tg (.Call (.Name "range" p) [a, b] [] pos) (iR2 f g) :=
  (pi_range2 hg T.range (pa_cons ha (pa_cons hb pa_nil (by rw [hs2]; rfl)) (by rw [hs, hs2])) hs hs2).imp fun σ H R ⟨ρ, B, S, h⟩ => ⟨ρ, B, S, bindP h fun d _ h v1 B1 H1 x1 t1 => ⟨ρ, B1, S.on x1, bindP (pR.on (P' := fun ds => ∀ J B2 H2, Ext B1 H1 B2 H2 → Walk J (fun B' _ => Same B2 B') ds → R J H2) h x1 fun ds z J B2 H2 y w => z J B2 H2 (x1.trans y) w) fun d2 _ h v2 B2 H2 x2 t2 => by
    have t1' := t1.on x2.b
    cases t1' with
    | int n =>
      cases t2 with
      | int m =>
        have h2 : pR C B1 H1 σ (fun ds => ∀ J B2 H2, Ext B1 H1 B2 H2 → Walk J (fun B' _ => Same B2 B') ds → R J H2) (if -1000000 ≤ n ∧ n ≤ 1000000 ∧ -1000000 ≤ m ∧ m ≤ 1000000 then .ok (rngD n (m - n).toNat) else .no) := h
        by_cases hz : -1000000 ≤ n ∧ n ≤ 1000000 ∧ -1000000 ≤ m ∧ m ≤ 1000000
        · rw [if_pos hz] at h2
          exact ⟨n, m, rfl, by omega, h2 _ B2 H2 x2 walk_rng⟩
        · rw [if_neg hz] at h2
          exact h2.elim
      | _ => exact h.elim
    | _ => exact h.elim⟩⟩
theorem xib_rng1 (T : Txs X.mg) (ha : XE X C a f) (hg : Gl X "range" := by rfl) (hs : starEach [a] X.env = [(false, eval a X.env)] := by rfl) : XIb X C tg (.Call (.Name "range" p) [a] [] pos) (iR1 f) := xi_b (xi_rng1 T ha hg hs)
theorem xib_rng2 (T : Txs X.mg) (ha : XE X C a f) (hb : XE X C b g) (hg : Gl X "range" := by rfl) (hs : starEach [a, b] X.env = [(false, eval a X.env), (false, eval b X.env)] := by rfl) (hs2 : starEach [b] X.env = [(false, eval b X.env)] := by rfl) : XIb X C tg (.Call (.Name "range" p) [a, b] [] pos) (iR2 f g) := xi_b (xi_rng2 T ha hb hg hs hs2)
/-- list(range(..)) -/
theorem rgV_all {B : Hp} (n : Int) : DtAll B (rgV 0 n) (rngD 0 n.toNat) := by
  unfold rgV rngD
  rw [Int.sub_zero]
  generalize List.range n.toNat = l
  induction l with
  | nil => exact .nil
  | cons i l ih => exact .cons (.int _) ih
theorem xl_rng1 (T : Txs X.mg) (ha : XE X C a f) (hc : X.calm = true := by rfl) (hg : Gl X "range" := by rfl) (hg2 : Gl X "list" := by rfl) (na : starEach [a] X.env = (false, eval a X.env) :: starEach [] X.env := by rfl) {p2 q : Pos}
    (nb : starEach [.Call (.Name "range" p) [a] [] q] X.env = (false, eval (.Call (.Name "range" p) [a] [] q) X.env) :: starEach [] X.env := by rfl) : XL X C (.Call (.Name "list" p2) [.Call (.Name "range" p) [a] [] q] [] pos) (iR1 f) :=
  (pe_listRg hc hg2 T.list (prg_1 hg T.range ha na) nb).imp fun σ H Q ⟨ρ, B, S, h⟩ => ⟨ρ, B, S, bindP h fun d _ h v1 B1 H1 x1 t1 => by
    cases t1 with
    | int n =>
      have h2 : pL C B H σ Q (if -1000000 ≤ n ∧ n ≤ 1000000 then .ok (rngD 0 n.toNat) else .no) := h
      by_cases hz : -1000000 ≤ n ∧ n ≤ 1000000
      · rw [if_pos hz] at h2
        refine ⟨n, rfl, ⟨by omega, by omega, by omega, by omega, by omega⟩, fun q hq => ?_⟩
        exact h2 q _ B1 _ (x1.trans (Ext.raw x1.s hq)) (x1.h.free hq) (x1.s.free hq) upd_same (rgV_all n)
      · rw [if_neg hz] at h2
        exact h2.elim
    | _ => exact h.elim⟩

/-! ### targets -/
structure TgOk (K : PySem.W.Frag) (g : Tg) (tg : TG) (is : List Nat) : Prop where
  go : ∀ {C : Cc} {B H : Hp} {v : V} {d : PyData} {σ : L2.St} {ρ ρ' : Env} {Q : L2.St → Hp → Prop}, Stt K C B H σ ρ → Dt B v d → g d ρ = .ok ρ' → (∀ σ', Stt K C B H σ' ρ' → σ'.length = σ.length → (∀ j, j ∉ is → σ'[j]? = σ[j]?) → Q σ' H) → tg v σ H Q
  ne : ∀ d ρ k, g d ρ ≠ .er k
structure XG (X : Cx) (e : Expr) (tg : TG) (g : Tg) (is : List Nat) : Prop where
  pg : PG X e tg
  ok : TgOk X.K g tg is
theorem xg_n (i : Nat) {x : Str} (hN : X.N.Nodup) (hi : X.N[i]? = some x := by rfl) (hx : Loc X.env.scope x := by first | exact Or.inl rfl | exact Or.inr rfl) (hf : X.fn x = true ∨ X.env.scope.names.lookup x = some .local := by first | exact .inl rfl | exact .inr rfl | assumption) :
    XG X (.Name x pos) (gName i) (gN i) [i] := ⟨pg_name hN hi hx hf, ⟨fun {C B H v d σ ρ ρ' Q} S t e k => by
      have e' : ρ.set i (.fz d) = ρ' := by injection e
      subst e'
      exact k _ (S.set i t) (List.length_set ..) (fun j hj => List.getElem?_set_ne (fun q => hj (by simp [q]))), fun _ _ _ h => by cases h⟩⟩
/-- several names -/
structure XGs (X : Cx) (es : List Expr) (tg : TGs) (is : List Nat) : Prop where
  pg : PGs X es tg
  go : ∀ {C : Cc} {B H : Hp} {vs : List V} {ds : List PyData} {σ : L2.St} {ρ : Env} {Q : L2.St → Hp → Prop}, Stt X.K C B H σ ρ → DtAll B vs ds → ds.length = is.length → (∀ σ', Stt X.K C B H σ' (setAll is ds ρ) → σ'.length = σ.length → (∀ j, j ∉ is → σ'[j]? = σ[j]?) → Q σ' H) → tg vs σ H Q
theorem xgs_nil : XGs X [] gNil [] := ⟨pgs_nil, fun {C B H vs ds σ ρ Q} S t hl k => by
  cases ds with
  | nil => cases t; exact ⟨rfl, k σ S rfl fun _ _ => rfl⟩
  | cons _ _ => cases hl⟩
theorem xgs_cons (i : Nat) {x : Str} {p : Pos} {tg : TGs} {is : List Nat} (hN : X.N.Nodup) (h2 : XGs X es tg is) (hi : X.N[i]? = some x := by rfl) (hx : Loc X.env.scope x := by first | exact Or.inl rfl | exact Or.inr rfl) (hf : X.fn x = true ∨ X.env.scope.names.lookup x = some .local := by first | exact .inl rfl | exact .inr rfl | assumption)
    (hs : (assignEach (.Name x p :: es) X.env).map (·.2) = assign (.Name x p) X.env :: (assignEach es X.env).map (·.2) := by rfl) : XGs X (.Name x p :: es) (gCons (gName i) tg) (i :: is) := ⟨pgs_cons (pg_name hN hi hx hf) h2.pg hs, fun {C B H vs ds σ ρ Q} S t hl k => by
  cases ds with
  | nil => cases hl
  | cons d ds =>
    cases t with
    | @cons v vs _ _ t1 t2 =>
      refine ⟨v, vs, rfl, ?_⟩
      refine h2.go (S.set i t1) t2 (by simpa using hl) fun σ' S' hl' hj => k σ' S' (by rw [hl', List.length_set]) fun j hj' => ?_
      rw [hj j (fun q => hj' (List.mem_cons_of_mem _ q)), List.getElem?_set_ne (fun q => hj' (by simp [q]))]⟩
theorem xg_t {kk : Nat} {tg : TGs} {is : List Nat} (hc : X.calm = true) (h : XGs X es tg is) (hn : (assignEach es X.env).length = is.length := by rfl) (hst : (assignEach es X.env).findIdx? (·.1) = none := by rfl) : XG X (.Tuple es kk pos) (gTup X.K is.length tg) (gT is) is :=
  ⟨pg_tup hc h.pg hn hst, ⟨(fun {C B H v d σ ρ ρ' Q} S t e k => by
    cases t with
    | @tup a xs ds h1 h2 =>
      obtain ⟨hl, e'⟩ := if_ok (show (if ds.length = is.length then Rs.ok (setAll is ds ρ) else .no) = .ok ρ' from e)
      subst e'
      exact ⟨a, xs, rfl, SqT.of (S.sm _ _ h1), by rw [h2.len]; exact hl, h.go S h2 hl k⟩
    | _ => cases e), fun d ρ k h => by
      unfold gT at h
      split at h
      · exact if_ne h
      · cases h⟩⟩

/-! ### comprehensions -/
theorem wipe_get {σ : L2.St} : ∀ {vs : List Nat} {i : Nat}, (wipe σ vs)[i]? = if i ∈ vs ∧ i < σ.length then some none else σ[i]?
  | [], i => by simp [wipe]
  | v :: vs, i => by
    have ih := wipe_get (σ := σ) (vs := vs) (i := i)
    unfold wipe
    by_cases h : v = i
    · subst h
      by_cases hl : v < σ.length
      · rw [List.getElem?_set_self (by rw [wipe_length]; exact hl), if_pos ⟨List.mem_cons_self, hl⟩]
      · rw [if_neg (fun q => hl q.2), List.getElem?_eq_none_iff.mpr (by rw [List.length_set, wipe_length]; omega), List.getElem?_eq_none_iff.mpr (by omega)]
    · rw [List.getElem?_set_ne h, ih]
      by_cases q : i ∈ vs ∧ i < σ.length
      · rw [if_pos q, if_pos ⟨List.mem_cons_of_mem _ q.1, q.2⟩]
      · rw [if_neg q, if_neg (fun z => q ⟨(List.mem_cons.mp z.1).elim (fun y => absurd y.symm h) id, z.2⟩)]
theorem wipe_eq {σ σ' : L2.St} {vs is : List Nat} (hl : σ'.length = (wipe σ vs).length) (hj : ∀ j, j ∉ is → σ'[j]? = (wipe σ vs)[j]?) (sub : ∀ i ∈ is, i ∈ vs) : wipe σ' vs = wipe σ vs := by
  rw [wipe_length] at hl
  refine List.ext_getElem? fun i => ?_
  rw [wipe_get, wipe_get, hl]
  by_cases h : i ∈ vs ∧ i < σ.length
  · rw [if_pos h, if_pos h]
  · rw [if_neg h, if_neg h]
    by_cases hi : i ∈ is
    · have hv := sub i hi
      have hn : ¬ i < σ.length := fun q => h ⟨hv, q⟩
      rw [List.getElem?_eq_none_iff.mpr (by omega), List.getElem?_eq_none_iff.mpr (by omega)]
    · rw [hj i hi, wipe_get, if_neg h]
theorem Stt.wipe {K : PySem.W.Frag} {B H : Hp} {σ : L2.St} {ρ : Env} (S : Stt K C B H σ ρ) : ∀ vs : List Nat, Stt K C B H (L2.wipe σ vs) (wipeE ρ vs)
  | [] => S
  | v :: vs => (Stt.wipe S vs).unset v
/-- within a comprehension's block nothing is raised -/
def Cc.blk (C : Cc) : Cc := { C with W := fun _ _ _ _ => False }
theorem Stt.blk {K : PySem.W.Frag} {B H : Hp} {σ : L2.St} {ρ : Env} (S : Stt K C B H σ ρ) : Stt K C.blk B H σ ρ := ⟨S.x, ⟨S.r.len, fun i s e n => by
  obtain ⟨v, h1, h2⟩ := S.r.at' i s e n
  refine ⟨v, h1, ?_⟩
  cases s <;> exact h2, S.r.sep⟩⟩
structure XTs (X : Cx) (C : Cc) (ifs : List Expr) (t : DT) : Prop where
  run : PTs X ifs (tT X.K C t)
theorem _root_.L2.PTs.imp {X : Cx} {ifs : List Expr} {t u : TT} (h : PTs X ifs t) (k : ∀ σ H Q, u σ H Q → t σ H Q) : PTs X ifs u := ⟨fun pins s σ H Q I hq => h.run pins s σ H Q I (k σ H Q hq)⟩
theorem xts_nil : XTs X C [] MS.tYes := ⟨pts_nil.imp fun σ H Q ⟨ρ, B, S, h⟩ => h B H (Ext.refl S.sm)⟩
theorem xts_one {t : DT} (h : XT X C a t) : XTs X C [a] t := ⟨pts_one h⟩
/-- the reading of a comprehension -/
theorem comp_go {K : PySem.W.Frag} {g : Tg} {tg : TG} {is vs : List Nat} {t : DT} {e : DE} (tk : TgOk K g tg is) (sub : ∀ i ∈ is, i ∈ vs) {it : DL} {σ : L2.St} {H : Hp} {Q : VK} (h : tL K C (lComp it g t e vs) σ H Q) :
    tLc (tIb K C it) tg (tT K C.blk t) (tE K C.blk e) vs σ H Q := by
  obtain ⟨ρ, B, S, h⟩ := h
  refine ⟨ρ, B, S, bindP h fun ds _ h J B1 H1 x1 w D hD => ?_⟩
  have h2 : pL C B H σ Q (if ds.length ≤ lim then compGo g t e (wipeE ρ vs) ds else .no) := h
  by_cases hz : ds.length ≤ lim
  · rw [if_pos hz] at h2
    cases eg : compGo g t e (wipeE ρ vs) ds with
    | no => rw [eg] at h2; exact h2.elim
    | er k =>
      exfalso
      have : ∀ ds, compGo g t e (wipeE ρ vs) ds ≠ .er k := by
        intro ds
        induction ds with
        | nil => intro q; cases q
        | cons d ds ih =>
          intro q
          unfold compGo at q
          split at q
          · split at q
            · split at q
              · cases q2 : compGo g t e (wipeE ρ vs) ds with
                | ok zs => rw [q2] at q; cases q
                | er k2 => rw [q2] at q; exact ih (by rw [q2]; injection q with q; rw [q])
                | no => rw [q2] at q; cases q
              · cases q
            · exact ih q
            · cases q
          · cases q
      exact this ds eg
    | ok zs =>
      rw [eg] at h2
      -- the invariant
      let Pv : Nat → Hp → Prop := fun i H' => ∃ B' acc ys rs, Ext B1 H1 B' H' ∧ B' D = none ∧ H' D = some (.lst acc) ∧ DtAll B' acc ys ∧ compGo g t e (wipeE ρ vs) (ds.drop i) = .ok rs ∧ zs = ys ++ rs ∧ ys.length ≤ i
      refine ⟨fun i m H' => m = ds.length - i ∧ i ≤ ds.length ∧ Pv i H', ⟨ds.length, by simp, Nat.zero_le _, B1, [], [], zs, Ext.raw x1.s hD, x1.s.free hD, upd_same, .nil, by rw [List.drop_zero]; exact eg, rfl, Nat.le_refl _⟩, ?_⟩
      rintro i m H' ⟨rfl, hi, B', acc, ys, rs, x2, nD, hD', ta, er, ez, hy⟩
      have sm' := x2.s
      by_cases hlt : i < ds.length
      · have ed : ds[i]? = some ds[i] := List.getElem?_eq_getElem hlt
        have edr : ds.drop i = ds[i] :: ds.drop (i + 1) := List.drop_eq_getElem_cons hlt
        obtain ⟨go, yl⟩ := (w B' H' x2 sm' i).2 _ ed
        refine .inr ⟨go, Pv (i + 1), fun H2 p => ⟨ds.length - (i + 1), by omega, rfl, hlt, p⟩, fun x H2 y => ?_⟩
        obtain ⟨B2, x3, tx⟩ := yl x H2 y
        have Sw : Stt K C.blk B2 H2 (L2.wipe σ vs) (wipeE ρ vs) := ((((S.on x1).on x2).on x3).wipe vs).blk
        have nD2 := none_ext x3 hD' nD
        have hD2 := x3.h _ _ hD'
        rw [edr] at er
        unfold compGo at er
        cases eg1 : g ds[i] (wipeE ρ vs) with
        | er k => exact absurd eg1 (tk.ne _ _ _)
        | no => rw [eg1] at er; cases er
        | ok ρ1 =>
          rw [eg1] at er
          refine tk.go Sw tx eg1 fun σ2 S2 hl2 hj2 => ⟨wipe_eq hl2 hj2 sub, ρ1, B2, S2, ?_⟩
          cases et : t ρ1 with
          | er k => simp only [et] at er; cases er
          | no => simp only [et] at er; cases er
          | ok bb =>
            simp only [et] at er
            intro B3 H3 x4
            cases bb with
            | false =>
              simp only at er
              show Pv (i + 1) H3
              exact ⟨B3, acc, ys, rs, (x2.trans x3).trans x4, none_ext x4 hD2 nD2, x4.h _ _ hD2, (ta.on x3.b).on x4.b, er, ez, by omega⟩
            | true =>
              show tE K C.blk e σ2 H3 _
              simp only at er
              refine ⟨ρ1, B3, S2.on x4, ?_⟩
              cases ee : e ρ1 with
              | er k => rw [ee] at er; cases er
              | no => rw [ee] at er; cases er
              | ok yv =>
                rw [ee] at er
                simp only at er
                intro v4 B4 H4 x5 t5
                have hD4 := x5.h _ _ (x4.h _ _ hD2)
                have nD4 := none_ext x5 (x4.h _ _ hD2) (none_ext x4 hD2 nD2)
                have ta4 := ((ta.on x3.b).on x4.b).on x5.b
                refine ⟨acc, hD4, Nat.lt_of_le_of_lt (Nat.le_of_eq ta.len) (lim_lt (by omega)), ?_⟩
                cases ec : compGo g t e (wipeE ρ vs) (ds.drop (i + 1)) with
                | er k => rw [ec] at er; cases er
                | no => rw [ec] at er; cases er
                | ok r2 =>
                  rw [ec] at er
                  have er' : yv :: r2 = rs := by injection er
                  subst er'
                  have xx : Ext B1 H1 B4 (upd H4 D (.lst (acc ++ [v4]))) := by
                    have x9 := ((x2.trans x3).trans x4).trans x5
                    refine ⟨x9.b, fun c o q => ?_, fun c o q => ?_, x9.n⟩
                    · rw [upd_ne (ne_of_none q hD)]
                      exact x9.h _ _ q
                    · have : c ≠ D := fun z => by rw [z, nD4] at q; cases q
                      rw [upd_ne this]
                      exact x9.s _ _ q
                  exact ⟨B4, acc ++ [v4], ys ++ [yv], r2, xx, nD4, upd_same, ta4.app (.one t5), ec, by rw [ez, List.append_assoc]; rfl, by rw [List.length_append]; show ys.length + 1 ≤ i + 1; omega⟩
      · have e : i = ds.length := by omega
        subst e
        rw [List.drop_length] at er
        have er' : [] = rs := by injection er
        subst er'
        rw [List.append_nil] at ez
        subst ez
        exact .inl ⟨(w B' H' x2 sm' _).1 (Nat.le_refl _), h2 D acc B' H' (x1.trans x2) (x1.h.free hD) nD hD' ta⟩
  · rw [if_neg hz] at h2
    exact h2.elim
theorem sub_of {is vs : List Nat} (h : is.all (fun i => vs.contains i) = true) : ∀ i ∈ is, i ∈ vs := fun i hi => by
  have := List.all_eq_true.mp h i hi
  simpa using this
theorem xl_comp {elt tg iter : Expr} {ifs : List Expr} {scope : Scope} {own : List (Str × Nat)} {it : DL} {g : Tg} {gt : TG} {is : List Nat} {t : DT} {f : DE} (hc : X.calm = true) (hN : X.N.Nodup) (hi : XIb X C tg iter it) (ok : BlkOk X.N X.env.scope scope own)
    (hg : ∀ (s : Shared) (H : Hp) (C0 : Addr) (cl : List (Str × Addr)) (fp : List Addr), XG (X.blk s H scope (compEnvC scope cl C0 X.env) fp) tg gt g is) (ht : ∀ (s : Shared) (H : Hp) (C0 : Addr) (cl : List (Str × Addr)) (fp : List Addr), XTs (X.blk s H scope (compEnvC scope cl C0 X.env) fp) C.blk ifs t)
    (he : ∀ (s : Shared) (H : Hp) (C0 : Addr) (cl : List (Str × Addr)) (fp : List Addr), XE (X.blk s H scope (compEnvC scope cl C0 X.env) fp) C.blk elt f) (sub : is.all (fun i => (own.map (·.2)).contains i) = true := by rfl)
    (hs : ∀ x, foldedSetIterable iter X.env x = pure x := by intro _; rfl) : XL X C (.ListComp elt [⟨tg, iter, ifs, 0⟩] scope pos) (lComp it g t f (own.map (·.2))) :=
  (pe_lc (te := tE X.K C.blk f) (wi := tIb X.K C it) hc hN hi ok (fun s H C0 cl fp => (hg s H C0 cl fp).pg) (fun s H C0 cl fp => (ht s H C0 cl fp).run) (fun s H C0 cl fp => he s H C0 cl fp) hs).imp fun σ H Q h => comp_go (hg {} (fun _ => none) 0 [] []).ok (sub_of sub) h
end
end MS

/-! MsLayF: calls of defs, statements, the rule for a def. -/
namespace MS
open PySem L2 PyProof.Rows

/-! ### the promise of a def -/
abbrev SlAll (K : PySem.W.Frag) (ec : XK → Addr) (B : Hp) : List V → List Sl → Prop := Paired fun v s => SlA K ec B v s
theorem SlAll.on {K : PySem.W.Frag} {ec : XK → Addr} {B B' : Hp} {vs : List V} {ss : List Sl} (h : SlAll K ec B vs ss) (e : Same B B') : SlAll K ec B' vs ss := Paired.mapP h fun _ _ z => SlA.on z e
/-- called with such data it hands back g's, or raises g's error; what stood stands -/
def spD (K : PySem.W.Frag) (ec : XK → Addr) (n : Nat) (g : DF) : Sp := fun vs H Q E => vs.length = n ∧ ∃ B ss, Same B H ∧ SlAll K ec B vs ss ∧ (match g ss with
  | .ok d => ∀ v B' H', Ext B H B' H' → Dt B' v d → Q v H'
  | .er k => ∀ B' H', Ext B H B' H' → E (.ref (ec k)) none H'
  | .no => False)
/-- the def x of the text keeps it -/
structure Fn (P : Program) (w : World) (K : PySem.W.Frag) (mg : Str → Option Value) (base : Heap) (ec : XK → Addr) (x : Str) (ps : List Str) (k : Nat) (g : DF) : Prop where
  ex : ∃ f fd, FnOk P w K mg base (L2.CX P w) k f fd ps (spD K ec ps.length g) ∧ mg x = some (.ref f) ∧ PySem.W.keepIn K (.ref f) = true ∧ Binds K fd ps []

section
variable {X : Cx} {C : Cc} {e a b c : Expr} {es : List Expr} {f g : DE} {fb : DB} {l : DL} {ar : DA} {t : DT} {pos p : Pos}
def pAr (K : PySem.W.Frag) (C : Cc) (B H : Hp) (σ : L2.St) (Q : List V → Hp → Prop) : Rs (List Sl) → Prop := pR C B H σ fun ss => ∀ vs B' H', Ext B H B' H' → SlAll K C.ec B' vs ss → Q vs H'
def tAr (K : PySem.W.Frag) (C : Cc) (f : DA) : TA := fun σ H Q => ∃ ρ B, Stt K C B H σ ρ ∧ pAr K C B H σ Q (f ρ)
def XAr (X : Cx) (C : Cc) (es : List Expr) (f : DA) : Prop := PA X es (tAr X.K C f)
theorem pAr.on {K : PySem.W.Frag} {B H B' H' : Hp} {σ : L2.St} {Q : List V → Hp → Prop} {r : Rs (List Sl)} (h : pAr K C B H σ Q r) (x : Ext B H B' H') : pAr K C B' H' σ Q r := pR.on h x fun _ z v B2 H2 y t => z v B2 H2 (x.trans y) t
theorem xs_nil : XAr X C [] saNil := pa_nil.imp fun σ H Q ⟨ρ, B, S, h⟩ => h [] B H (Ext.refl S.sm) .nil
theorem frzS_of {K : PySem.W.Frag} {B H : Hp} {v : V} {s s' : Sl} (h : SlV K C B H v s) (e : frzS s = .ok s') : SlA K C.ec B v s' := by
  cases s with
  | fz d => have e' : Sl.fz d = s' := by injection e
            subst e'; exact h
  | ex k => have e' : Sl.ex k = s' := by injection e
            subst e'; exact h
  | sc ns => have e' : Sl.sc ns = s' := by injection e
             subst e'; exact h
  | bx a => have e' : Sl.bx a = s' := by injection e
            subst e'; exact h
  | _ => cases e
theorem frzS_ne (s : Sl) (k : XK) : frzS s ≠ .er k := by cases s <;> (intro h; cases h)
theorem xs_cons (ha : XB X C a fb) (hr : XAr X C es ar) (hs : starEach (a :: es) X.env = (false, eval a X.env) :: starEach es X.env := by rfl) : XAr X C (a :: es) (saCons fb ar) :=
  (pa_cons ha hr hs).imp fun σ H Q ⟨ρ, B, S, h⟩ => ⟨ρ, B, S, bindP h fun s _ h v1 B1 H1 x1 t1 => by
    cases e : frzS s with
    | er k => exact absurd e (frzS_ne s k)
    | no => rw [e] at h; exact h.elim
    | ok s' =>
      rw [e] at h
      have t1' := frzS_of t1 e
      exact ⟨ρ, B1, S.on x1, bindP (pAr.on (Q := Q) h x1) fun ss _ h vs B2 H2 x2 t2 => h _ B2 H2 x2 (.cons (t1'.on x2.b) t2)⟩⟩
theorem xe_call {x : Str} {ps : List Str} {k : Nat} {g : DF} (F : Fn X.prog X.w X.K X.mg X.base C.ec x ps k g) (hr : Room k X.A) (ha : XAr X C (e :: es) ar) (tk : Takes X C.W := by first | assumption | exact takes0) (hg : Gl X x := by rfl) (hdb : (x == ("__debug__" : Str)) = false := by decide)
    (hl : (e :: es).length = ps.length := by rfl) (he : starEach (e :: es) X.env = (false, eval e X.env) :: starEach es X.env := by rfl) (hpl : (backTo pos (starEach es X.env)).any (·.1) = false := by rfl) (hn : ∀ ρ ss, ar ρ = .ok ss → ss.length = ps.length) : XE X C (.Call (.Name x p) (e :: es) [] pos) (dCall g ar) := by
  obtain ⟨fa, fd, G, hm, hk, hb⟩ := F.ex
  refine (pe_callS (E := WE C.W) G hr hg hm hk hb (fun σ => passAt tk σ) ha hdb he hpl).imp fun σ H Q ⟨ρ, B, S, h⟩ => ⟨ρ, B, S, bindP h fun ss es h vs B1 H1 x1 t1 => ⟨?_, B1, ss, x1.s, t1, ?_⟩⟩
  · rw [Paired.length t1, hn ρ ss es]
  · have h' := pE.on (Q := Q) h x1
    cases eg : g ss with
    | ok d => rw [eg] at h'; exact h'
    | er k => rw [eg] at h'; exact h'
    | no => rw [eg] at h'; exact h'.elim
theorem sa_len {ar : DA} {fb : DB} {n : Nat} (h : ∀ ρ ss, ar ρ = .ok ss → ss.length = n) : ∀ ρ ss, saCons fb ar ρ = .ok ss → ss.length = n + 1 := fun ρ ss e => by
  unfold saCons at e
  cases e1 : fb ρ with
  | ok s =>
    rw [e1, Rs.bind_ok] at e
    cases e2 : frzS s with
    | ok s' =>
      rw [e2, Rs.bind_ok] at e
      cases e3 : ar ρ with
      | ok ts =>
        rw [e3] at e
        have e' : s' :: ts = ss := by injection e
        subst e'
        rw [List.length_cons, h ρ ts e3]
      | er k => rw [e3] at e; cases e
      | no => rw [e3] at e; cases e
    | er k => rw [e2] at e; cases e
    | no => rw [e2] at e; cases e
  | er k => rw [e1] at e; cases e
  | no => rw [e1] at e; cases e
theorem sa_len0 : ∀ ρ ss, saNil ρ = .ok ss → ss.length = 0 := fun ρ ss e => by
  have e' : ([] : List Sl) = ss := by injection e
  subst e'; rfl

/-! ### statements -/
def pS (K : PySem.W.Frag) (C : Cc) (D : Ends) (B : Hp) : Ou → Prop
  | .nx ρ' => ∀ σ' B' H', Same B B' → Stt K C B' H' σ' ρ' → D.nx σ' H'
  | .rt d => ∀ v B' H', Same B B' → Ext C.B0 C.G B' H' → Dt B' v d → D.rt v H'
  | .bk ρ' => ∀ σ' B' H', Same B B' → Stt K C B' H' σ' ρ' → D.bk σ' H'
  | .ct ρ' => ∀ σ' B' H', Same B B' → Stt K C B' H' σ' ρ' → D.ct σ' H'
  | .er k ρ' => ∀ σ' B' H', Same B B' → Stt K C B' H' σ' ρ' → C.W (.ref (C.ec k)) none σ' H'
  | .no => False
def tS (K : PySem.W.Frag) (C : Cc) (g : DS) : TS := fun D σ H => ∃ ρ B, Stt K C B H σ ρ ∧ pS K C D B (g ρ)
def XS (X : Cx) (C : Cc) (st : Stmt) (g : DS) : Prop := PS X st (tS X.K C g)
def XSs (X : Cx) (C : Cc) (st : List Stmt) (g : DS) : Prop := PSs X st (tS X.K C g)
theorem pS.on {K : PySem.W.Frag} {D : Ends} {B B' : Hp} {o : Ou} (h : pS K C D B o) (s : Same B B') : pS K C D B' o := by
  cases o with
  | nx ρ => exact fun σ' B2 H2 s2 => h σ' B2 H2 (s.trans s2)
  | rt d => exact fun v B2 H2 s2 => h v B2 H2 (s.trans s2)
  | bk ρ => exact fun σ' B2 H2 s2 => h σ' B2 H2 (s.trans s2)
  | ct ρ => exact fun σ' B2 H2 s2 => h σ' B2 H2 (s.trans s2)
  | er k ρ => exact fun σ' B2 H2 s2 => h σ' B2 H2 (s.trans s2)
  | no => exact h
theorem bindS {K : PySem.W.Frag} {D : Ends} {B H : Hp} {σ : L2.St} {ρ : Env} {α : Type} {r : Rs α} {F : α → Ou} {P : α → Prop} (S : Stt K C B H σ ρ) (h : pS K C D B (bE r ρ F)) (k : ∀ a, r = .ok a → pS K C D B (F a) → P a) : pR C B H σ P r := by
  cases r with
  | ok a => exact k a rfl h
  | er k => exact fun B' H' x => h σ B' H' x.b (S.on x)
  | no => exact h
theorem xss_nil : XSs X C [] sNx := pss_nil.imp fun D σ H ⟨ρ, B, S, h⟩ => h σ B H (Same.refl _) S
theorem pS_imp {K : PySem.W.Frag} {D D' : Ends} {B : Hp} {o : Ou} (h : pS K C D B o) (nx : ∀ ρ, o = .nx ρ → pS K C D' B (.nx ρ)) (rt : D'.rt = D.rt) (bk : D'.bk = D.bk) (ct : D'.ct = D.ct) : pS K C D' B o := by
  cases o with
  | nx ρ => exact nx ρ rfl
  | rt d => intro v B2 H2 s2 x t; rw [rt]; exact h v B2 H2 s2 x t
  | bk ρ => intro σ' B2 H2 s2 x; rw [bk]; exact h σ' B2 H2 s2 x
  | ct ρ => intro σ' B2 H2 s2 x; rw [ct]; exact h σ' B2 H2 s2 x
  | er k ρ => exact h
  | no => exact h
theorem xss_cons {st : Stmt} {rest : List Stmt} {g h : DS} (h1 : XS X C st g) (h2 : XSs X C rest h) : XSs X C (st :: rest) (sSeq g h) :=
  (pss_cons h1 h2).imp fun D σ H ⟨ρ, B, S, hh⟩ => ⟨ρ, B, S, by
    cases e : g ρ with
    | nx ρ1 =>
      have h' : pS X.K C D B (h ρ1) := by
        have : sSeq g h ρ = h ρ1 := by unfold sSeq; rw [e]
        rw [← this]; exact hh
      exact fun σ' B' H' s2 S2 => ⟨ρ1, B', S2, h'.on s2⟩
    | rt d => have : sSeq g h ρ = .rt d := by unfold sSeq; rw [e]
              rw [this] at hh; exact hh
    | bk d => have : sSeq g h ρ = .bk d := by unfold sSeq; rw [e]
              rw [this] at hh; exact hh
    | ct d => have : sSeq g h ρ = .ct d := by unfold sSeq; rw [e]
              rw [this] at hh; exact hh
    | er k d => have : sSeq g h ρ = .er k d := by unfold sSeq; rw [e]
                rw [this] at hh; exact hh
    | no => have : sSeq g h ρ = .no := by unfold sSeq; rw [e]
            rw [this] at hh; exact hh⟩
theorem xss_one {st : Stmt} {g : DS} (h1 : XS X C st g) : XSs X C [st] g := pss_one h1
theorem xss_frz (i : Nat) {sts : List Stmt} {g : DS} (h : XSs X C sts g) : XSs X C sts (sSeq (sFrz i) g) := PSs.imp h fun D σ H ⟨ρ, B, S, hh⟩ => by
  by_cases q : ∃ ds, ρ[i]? = some (.ow ds)
  · obtain ⟨ds, e⟩ := q
    obtain ⟨B', s1, S1⟩ := S.frz e
    have e2 : sSeq (sFrz i) g ρ = g (ρ.set i (.fz (.list ds))) := by unfold sSeq sFrz; simp only [e]
    rw [e2] at hh
    exact ⟨_, B', S1, hh.on s1⟩
  · have e2 : sFrz i ρ = .nx ρ := by
      unfold sFrz
      split
      · rename_i ds e; exact absurd ⟨ds, e⟩ q
      · rfl
    have e3 : sSeq (sFrz i) g ρ = g ρ := by unfold sSeq; rw [e2]
    rw [e3] at hh
    exact ⟨ρ, B, S, hh⟩
theorem xs_set (i : Nat) {x : Str} {p' : Pos} (hN : X.N.Nodup) (he : XE X C e f) (hi : X.N[i]? = some x := by rfl) (hx : Loc X.env.scope x := by first | exact Or.inl rfl | exact Or.inr rfl) (hs : swapsWith e (some (.Name x p')) pos.line X.env = pure false := by rfl) (hf : X.fn x = true ∨ X.env.scope.names.lookup x = some .local := by first | exact .inl rfl | exact .inr rfl | assumption) :
    XS X C (.Assign [.Name x p'] e pos) (sSet i f) := (ps_set hN hi hx he hs hf).imp fun D σ H ⟨ρ, B, S, h⟩ => ⟨ρ, B, S, bindS S h fun d _ h v B1 H1 x1 t1 => h _ B1 H1 x1.b ((S.on x1).set i t1)⟩
theorem Stt.setL {K : PySem.W.Frag} {B H B' H' : Hp} {σ : L2.St} {ρ : Env} {a : Addr} {s : Sl} (S : Stt K C B H σ ρ) (i : Nat) (x : Ext B H B' H') (hn : H a = none) (ho : s.own = true) (hs : SlV K C B' H' (.ref a) s) : Stt K C B' H' (σ.set i (some (.ref a))) (ρ.set i s) := by
  have S1 := S.on x
  have far : ∀ (j : Nat) (t : Sl), ρ[j]? = some t → t.own = true → σ[j]? = some (some (V.ref a)) → False := fun j t e ot f => by
    obtain ⟨b, u, g1, g2, _⟩ := S.ownAt e ot
    rw [f] at g1
    injection g1 with g1; injection g1 with g1; injection g1 with g1
    subst g1
    rw [hn] at g2; cases g2
  refine ⟨S1.x, ⟨by rw [List.length_set, List.length_set]; exact S1.r.len, fun j t e n => ?_, fun j k t u w hjk e1 e2 o1 o2 f1 f2 => ?_⟩⟩
  · rcases get_set_some e with ⟨q, rfl, hl⟩ | ⟨q, e⟩
    · subst q
      exact ⟨.ref a, List.getElem?_set_self (by rw [S.r.len]; exact hl), hs⟩
    · rw [List.getElem?_set_ne q]
      exact S1.r.at' j t e n
  · rcases get_set_some e1 with ⟨q1, hts, hl⟩ | ⟨q1, e1⟩
    · subst q1
      rw [List.getElem?_set_self (by rw [S.r.len]; exact hl)] at f1
      have f1' : V.ref a = w := Option.some.inj (Option.some.inj f1)
      subst f1'
      rcases get_set_some e2 with ⟨q2, _, _⟩ | ⟨q2, e2⟩
      · exact hjk q2
      · rw [List.getElem?_set_ne q2] at f2
        exact far k u e2 o2 f2
    · rw [List.getElem?_set_ne q1] at f1
      rcases get_set_some e2 with ⟨q2, hts, hl⟩ | ⟨q2, e2⟩
      · subst q2
        rw [List.getElem?_set_self (by rw [S.r.len]; exact hl)] at f2
        have f2' : V.ref a = w := Option.some.inj (Option.some.inj f2)
        subst f2'
        exact far j t e1 o1 f1
      · rw [List.getElem?_set_ne q2] at f2
        exact S.r.sep j k t u w hjk e1 e2 o1 o2 f1 f2
theorem xs_own (i : Nat) {x : Str} {p' : Pos} (hN : X.N.Nodup) (he : XL X C e l) (hi : X.N[i]? = some x := by rfl) (hx : Loc X.env.scope x := by first | exact Or.inl rfl | exact Or.inr rfl) (hs : swapsWith e (some (.Name x p')) pos.line X.env = pure false := by rfl) (hf : X.fn x = true ∨ X.env.scope.names.lookup x = some .local := by first | exact .inl rfl | exact .inr rfl | assumption) :
    XS X C (.Assign [.Name x p'] e pos) (sOwn i l) := (ps_set hN hi hx he hs hf).imp fun D σ H ⟨ρ, B, S, h⟩ => ⟨ρ, B, S, bindS S h fun ds _ h a xs B1 H1 x1 n1 n2 h1 t1 => h _ B1 H1 x1.b (S.setL i x1 n1 rfl ⟨a, xs, rfl, h1, n2, S.x.h.free n1, t1⟩)⟩
theorem xs_tg {tg : Expr} {g : Tg} {gt : TG} {is : List Nat} (hg : XG X tg gt g is) (he : XE X C e f) (hs : swapsWithSole [tg] e pos.line X.env = pure false := by rfl) (hw : swappedStores [tg] e X.env = pure none := by rfl)
    (h1 : (assignEach [tg] X.env).map (·.2) = [assign tg X.env] := by rfl) : XS X C (.Assign [tg] e pos) (sTg g f) := (ps_asg he hg.pg hs hw h1).imp fun D σ H ⟨ρ, B, S, h⟩ => ⟨ρ, B, S, bindS S h fun d _ h v B1 H1 x1 t1 => by
  cases eg : g d ρ with
  | er k => exact absurd eg (hg.ok.ne _ _ _)
  | no => rw [eg] at h; exact h.elim
  | ok ρ' =>
    rw [eg] at h
    exact hg.ok.go (S.on x1) t1 eg fun σ' S' _ _ => h σ' B1 H1 x1.b S'⟩
theorem xs_expr (he : XE X C e f) (hs : swapsWith e none pos.line X.env = pure false := by rfl) : XS X C (.Expr e pos) (sExpr f) := (ps_expr he hs).imp fun D σ H ⟨ρ, B, S, h⟩ => ⟨ρ, B, S, bindS S h fun d _ h v B1 H1 x1 t1 => h σ B1 H1 x1.b (S.on x1)⟩
theorem xs_ret (he : XE X C e f) : XS X C (.Return (some e) pos) (sRet f) := (ps_ret he).imp fun D σ H ⟨ρ, B, S, h⟩ => ⟨ρ, B, S, bindS S h fun d _ h v B1 H1 x1 t1 => h v B1 H1 x1.b (S.on x1).x t1⟩
theorem xs_if {sa sb : List Stmt} {ga gb : DS} (hc : XT X C c t) (ha : XSs X C sa ga) (hb : XSs X C sb gb) : XS X C (.If c sa sb pos) (sIf t ga gb) := (ps_if hc ha hb).imp fun D σ H ⟨ρ, B, S, h⟩ => ⟨ρ, B, S, bindS S h fun k _ h B1 H1 x1 => by
  cases k with
  | true => exact ⟨ρ, B1, S.on x1, pS.on (o := ga ρ) h x1.b⟩
  | false => exact ⟨ρ, B1, S.on x1, pS.on (o := gb ρ) h x1.b⟩⟩
theorem own_list {K : PySem.W.Frag} {B H : Hp} {σ : L2.St} {ρ : Env} {i : Nat} {ds : List PyData} (S : Stt K C B H σ ρ) (e : ρ[i]? = some (.ow ds)) : ∃ a xs, σ[i]? = some (some (.ref a)) ∧ H a = some (.lst xs) ∧ B a = none ∧ C.G a = none ∧ DtAll B xs ds := by
  obtain ⟨v, h1, a, xs, rfl, z1, z2, z3, z4⟩ := S.r.at' i _ e (by intro q; cases q)
  exact ⟨a, xs, h1, z1, z2, z3, z4⟩
theorem xs_app (i : Nat) {x : Str} {apos cpos xp : Pos} (he : XE X C e f) (hN : X.N[i]? = some x := by rfl) (hv : Vis X.env.scope x := by first | exact Or.inl rfl | exact Or.inr (Or.inl rfl) | exact Or.inr (Or.inr rfl)) (hd : (x == ("__debug__" : Str)) = false := by decide) (hcd : (x == ("__classdict__" : Str)) = false := by decide)
    (hst : starEach (e :: []) X.env = (false, eval e X.env) :: starEach [] X.env := by rfl) (hb : attributeBase (.Name x xp) "append" X.env (eval (.Name x xp) X.env) = eval (.Name x xp) X.env := by rfl)
    (hfew : ((backTo cpos (starEach (e :: []) X.env)).all (fun x => !x.1) && (backToKw cpos (keywordEach [] X.env)).all (fun x => x.1.isSome) && decide ((e :: []).length + ([] : List Keyword).length + (if ([] : List Keyword).isEmpty then 0 else 1) < 30)) = true := by rfl)
    (hline : (apos.endLine == cpos.line) = true := by rfl)
    (hs : swapsWith (.Call (.Attribute (.Name x xp) "append" apos) [e] [] cpos) none pos.line X.env = pure false := by rfl) :
    XS X C (.Expr (.Call (.Attribute (.Name x xp) "append" apos) [e] [] cpos) pos) (sApp i f) :=
  (ps_expr (pe_bm PySem.F.plainAttrs_list PySem.F.slot_list_append PySem.F.type_list_append mt_append (pe_var hN hv hd hcd) (pa_cons he pa_nil hst) hb hfew hline hst rfl) hs).imp fun D σ H ⟨ρ, B, S, h⟩ => by
    unfold sApp at h
    split at h
    · rename_i ds e
      obtain ⟨a, xs, z1, z2, z3, z4, z5⟩ := own_list S e
      refine ⟨.ref a, z1, .inl ⟨rfl, xs, SqL.of z2⟩, ρ, B, S, bindS S h fun d _ h v B1 H1 x1 t1 => ?_⟩
      have S1 := S.on x1
      have z2' := x1.h _ _ z2
      by_cases hz : ds.length < lim
      · rw [if_pos hz] at h
        refine ⟨a, xs, v, rfl, rfl, z2', by rw [z5.len]; exact lim_lt (Nat.le_of_lt hz), ?_⟩
        exact h σ B1 _ x1.b (S1.mut e rfl z1 rfl ⟨a, _, rfl, upd_same, none_ext x1 z2 z3, z4, (z5.on x1.b).app (.one t1)⟩)
      · rw [if_neg hz] at h
        exact h.elim
    · exact h.elim
theorem xs_ext (i : Nat) {x : Str} {apos cpos xp : Pos} (he : XL X C e l) (hN : X.N[i]? = some x := by rfl) (hv : Vis X.env.scope x := by first | exact Or.inl rfl | exact Or.inr (Or.inl rfl) | exact Or.inr (Or.inr rfl)) (hd : (x == ("__debug__" : Str)) = false := by decide) (hcd : (x == ("__classdict__" : Str)) = false := by decide)
    (hst : starEach (e :: []) X.env = (false, eval e X.env) :: starEach [] X.env := by rfl) (hb : attributeBase (.Name x xp) "extend" X.env (eval (.Name x xp) X.env) = eval (.Name x xp) X.env := by rfl)
    (hfew : ((backTo cpos (starEach (e :: []) X.env)).all (fun x => !x.1) && (backToKw cpos (keywordEach [] X.env)).all (fun x => x.1.isSome) && decide ((e :: []).length + ([] : List Keyword).length + (if ([] : List Keyword).isEmpty then 0 else 1) < 30)) = true := by rfl)
    (hline : (apos.endLine == cpos.line) = true := by rfl)
    (hs : swapsWith (.Call (.Attribute (.Name x xp) "extend" apos) [e] [] cpos) none pos.line X.env = pure false := by rfl) :
    XS X C (.Expr (.Call (.Attribute (.Name x xp) "extend" apos) [e] [] cpos) pos) (sExt i l) :=
  (ps_expr (pe_bm PySem.F.plainAttrs_list PySem.F.slot_list_extend PySem.F.type_list_extend mt_extend (pe_var hN hv hd hcd) (pa_cons he pa_nil hst) hb hfew hline hst rfl) hs).imp fun D σ H ⟨ρ, B, S, h⟩ => by
    unfold sExt at h
    split at h
    · rename_i ds e
      obtain ⟨a, xs, z1, z2, z3, z4, z5⟩ := own_list S e
      refine ⟨.ref a, z1, .inl ⟨rfl, xs, SqL.of z2⟩, ρ, B, S, bindS S h fun es _ h b ys B1 H1 x1 n1 n2 h1 t1 => ?_⟩
      have S1 := S.on x1
      have z2' := x1.h _ _ z2
      by_cases hz : ds.length + es.length ≤ lim
      · rw [if_pos hz] at h
        refine ⟨a, b, xs, ys, rfl, rfl, z2', h1, by rw [z5.len, t1.len]; exact lim_le hz, ?_⟩
        exact h σ B1 _ x1.b (S1.mut e rfl z1 rfl ⟨a, _, rfl, upd_same, none_ext x1 z2 z3, z4, (z5.on x1.b).app t1⟩)
      · rw [if_neg hz] at h
        exact h.elim
    · exact h.elim
theorem getLast_D {B : Hp} {vs : List V} {ds : List PyData} {d : PyData} (h : DtAll B vs ds) (e : ds.getLast? = some d) : ∃ v, vs[vs.length - 1]? = some v ∧ Dt B v d := by
  rw [List.getLast?_eq_getElem?] at e
  rw [h.len]
  exact h.getD e
theorem xs_pop (j i : Nat) {x y : Str} {apos cpos xp p' : Pos} (hN : X.N.Nodup) (hi : X.N[i]? = some x := by rfl) (hj : X.N[j]? = some y := by rfl) (hv : Vis X.env.scope x := by first | exact Or.inl rfl | exact Or.inr (Or.inl rfl) | exact Or.inr (Or.inr rfl)) (hd : (x == ("__debug__" : Str)) = false := by decide) (hcd : (x == ("__classdict__" : Str)) = false := by decide)
    (hb : attributeBase (.Name x xp) "pop" X.env (eval (.Name x xp) X.env) = eval (.Name x xp) X.env := by rfl) (hline : (apos.endLine == cpos.line) = true := by rfl) (hx : Loc X.env.scope y := by first | exact Or.inl rfl | exact Or.inr rfl)
    (hs : swapsWith (.Call (.Attribute (.Name x xp) "pop" apos) [] [] cpos) (some (.Name y p')) pos.line X.env = pure false := by rfl) (hf : X.fn y = true ∨ X.env.scope.names.lookup y = some .local := by first | exact .inl rfl | exact .inr rfl | assumption) :
    XS X C (.Assign [.Name y p'] (.Call (.Attribute (.Name x xp) "pop" apos) [] [] cpos) pos) (sPop j i) :=
  (ps_set hN hj hx (pe_bm0 PySem.F.plainAttrs_list PySem.F.slot_list_pop PySem.F.type_list_pop mt_pop (pe_var hi hv hd hcd) hb hline) hs hf).imp fun D σ H ⟨ρ, B, S, h⟩ => by
    unfold sPop at h
    split at h
    · rename_i ds e
      obtain ⟨a, xs, z1, z2, z3, z4, z5⟩ := own_list S e
      split at h
      · rename_i d ed
        obtain ⟨v, hv, tv⟩ := getLast_D z5 ed
        refine ⟨.ref a, z1, .inl ⟨rfl, xs, SqL.of z2⟩, a, xs, v, rfl, rfl, z2, hv, ?_⟩
        exact h _ B _ (Same.refl _) ((S.mut (o := .lst xs.dropLast) e rfl z1 rfl (t := .ow ds.dropLast) ⟨a, _, rfl, upd_same, z3, z4, z5.init⟩).set j tv)
      · exact h.elim
    · exact h.elim
theorem xs_for {tg iter : Expr} {body : List Stmt} {it : DL} {g : Tg} {gt : TG} {is : List Nat} {bd : DS} (hi : XI X C tg iter it) (hg : XG X tg gt g is) (hb : XSs X C body bd) (pw : PassesOwn (model X.prog X.w) X.A X.env X.xe := by assumption) (hc : X.calm = true := by rfl)
    (hs : ∀ x, foldedSetIterable iter X.env x = pure x := by intro _; rfl) : XS X C (.For tg iter body [] pos) (sFor it g bd) :=
  (ps_for pw hc hi hg.pg hb hs).imp fun D σ H ⟨ρ, B, S, h⟩ => ⟨ρ, B, S, bindS S h fun ds _ h J B1 H1 x1 w => by
    refine ⟨fun i m σ' H' => m = ds.length - i ∧ i ≤ ds.length ∧ ∃ ρ' B', Same B1 B' ∧ Stt X.K C B' H' σ' ρ' ∧ pS X.K C D B' (loopGo g bd (ds.drop i) ρ'), ⟨ds.length, by simp, Nat.zero_le _, ρ, B1, Same.refl _, S.on x1, by rw [List.drop_zero]; exact pS.on h x1.b⟩, ?_⟩
    rintro i m σ' H' ⟨rfl, hi, ρ', B', sb, S', h'⟩
    by_cases hlt : i < ds.length
    · have ed : ds[i]? = some ds[i] := List.getElem?_eq_getElem hlt
      have edr : ds.drop i = ds[i] :: ds.drop (i + 1) := List.drop_eq_getElem_cons hlt
      obtain ⟨go, yl⟩ := (w B' H' sb S'.sm i).2 _ ed
      refine .inr ⟨go, fun σ2 H2 => ∃ ρ2 B2, Same B1 B2 ∧ Stt X.K C B2 H2 σ2 ρ2 ∧ pS X.K C D B2 (loopGo g bd (ds.drop (i + 1)) ρ2), fun σ2 H2 p => ⟨ds.length - (i + 1), by omega, rfl, hlt, p⟩, fun x H2 y => ?_⟩
      obtain ⟨B2, x3, tx⟩ := yl x H2 y
      rw [edr] at h'
      unfold loopGo at h'
      cases eg : g ds[i] ρ' with
      | er k => exact absurd eg (hg.ok.ne _ _ _)
      | no => rw [eg] at h'; exact h'.elim
      | ok ρ1 =>
        rw [eg] at h'
        simp only [bE_ok] at h'
        refine hg.ok.go (S'.on x3) tx eg fun σ2 S2 _ _ => ⟨ρ1, B2, S2, ?_⟩
        have sb2 := sb.trans x3.b
        cases eb : bd ρ1 with
        | nx ρ2 =>
          rw [eb] at h'
          exact fun σ3 B3 H3 s3 S3 => ⟨ρ2, B3, sb2.trans s3, S3, pS.on h' (x3.b.trans s3)⟩
        | ct ρ2 =>
          rw [eb] at h'
          exact fun σ3 B3 H3 s3 S3 => ⟨ρ2, B3, sb2.trans s3, S3, pS.on h' (x3.b.trans s3)⟩
        | bk ρ2 =>
          rw [eb] at h'
          exact fun σ3 B3 H3 s3 S3 => h' σ3 B3 H3 (x3.b.trans s3) S3
        | rt d =>
          rw [eb] at h'
          exact fun v B3 H3 s3 x t => h' v B3 H3 (x3.b.trans s3) x t
        | er k ρ2 =>
          rw [eb] at h'
          exact fun σ3 B3 H3 s3 S3 => h' σ3 B3 H3 (x3.b.trans s3) S3
        | no => rw [eb] at h'; exact h'.elim
    · have e : i = ds.length := by omega
      subst e
      rw [List.drop_length] at h'
      exact .inl ⟨(w B' H' sb S'.sm _).1 (Nat.le_refl _), h' σ' B' H' (Same.refl _) S'⟩⟩
theorem xs_while {body : List Stmt} {bd : DS} {n : Nat} (hc : XT X C c t) (hb : XSs X C body bd) (pw : PassesOwn (model X.prog X.w) X.A X.env X.xe := by assumption) : XS X C (.While c body [] pos) (sWhile t bd n) :=
  (ps_while pw hc hb).imp fun D σ H ⟨ρ, B, S, h⟩ => by
    refine ⟨fun m σ' H' => ∃ ρ' B', Stt X.K C B' H' σ' ρ' ∧ pS X.K C D B' (sWhile t bd m ρ'), ⟨n, ρ, B, S, h⟩, ?_⟩
    rintro m σ' H' ⟨ρ', B', S', h'⟩
    cases m with
    | zero => exact h'.elim
    | succ m =>
      refine ⟨ρ', B', S', bindS S' h' fun k _ h' B2 H2 x2 => ?_⟩
      cases k with
      | false =>
        show D.nx σ' H2
        exact h' σ' B2 H2 x2.b (S'.on x2)
      | true =>
        refine ⟨fun σ3 H3 => ∃ ρ3 B3, Stt X.K C B3 H3 σ3 ρ3 ∧ pS X.K C D B3 (sWhile t bd m ρ3), fun σ3 H3 p => ⟨m, Nat.lt_succ_self m, p⟩, ρ', B2, S'.on x2, ?_⟩
        have h2 := pS.on h' x2.b
        rw [if_pos rfl] at h2
        cases eb : bd ρ' with
        | nx ρ2 =>
          rw [eb] at h2
          exact fun σ3 B3 H3 s3 S3 => ⟨ρ2, B3, S3, pS.on h2 s3⟩
        | ct ρ2 =>
          rw [eb] at h2
          exact fun σ3 B3 H3 s3 S3 => ⟨ρ2, B3, S3, pS.on h2 s3⟩
        | bk ρ2 =>
          rw [eb] at h2
          exact fun σ3 B3 H3 s3 S3 => h2 σ3 B3 H3 s3 S3
        | rt d =>
          rw [eb] at h2
          exact fun v B3 H3 s3 x t => h2 v B3 H3 s3 x t
        | er k ρ2 =>
          rw [eb] at h2
          exact fun σ3 B3 H3 s3 S3 => h2 σ3 B3 H3 s3 S3
        | no => rw [eb] at h2; exact h2.elim
theorem xs_setlc (i : Nat) {y : Str} {py spos : Pos} {elt tg iter : Expr} {ifs : List Expr} {scope : Scope} {own : List (Str × Nat)} {it : DL} {g : Tg} {gt : TG} {is : List Nat} {t : DT} {f : DE} (hc : X.calm = true) (hN : X.N.Nodup) (hy : X.N[i]? = some y) (hyl : X.env.scope.names.lookup y = some .local)
    (hsw : swapsWith (.ListComp elt [⟨tg, iter, ifs, 0⟩] scope pos) (some (.Name y py)) spos.line X.env = pure true) (hi : XIb X C tg iter it) (ok : BlkOk X.N X.env.scope scope own)
    (hg : ∀ (s : Shared) (H : Hp) (C0 : Addr) (cl : List (Str × Addr)) (fp : List Addr), XG (X.blk s H scope (compEnvC scope cl C0 X.env) fp) tg gt g is) (ht : ∀ (s : Shared) (H : Hp) (C0 : Addr) (cl : List (Str × Addr)) (fp : List Addr), XTs (X.blk s H scope (compEnvC scope cl C0 X.env) fp) C.blk ifs t)
    (he : ∀ (s : Shared) (H : Hp) (C0 : Addr) (cl : List (Str × Addr)) (fp : List Addr), XE (X.blk s H scope (compEnvC scope cl C0 X.env) fp) C.blk elt f) (sub : is.all (fun i => (own.map (·.2)).contains i) = true := by rfl)
    (hs : ∀ x, foldedSetIterable iter X.env x = pure x := by intro _; rfl) : XS X C (.Assign [.Name y py] (.ListComp elt [⟨tg, iter, ifs, 0⟩] scope pos) spos) (sSet i (dLst (lComp it g t f (own.map (·.2))))) :=
  (ps_setLc (te := tE X.K C.blk f) (wi := tIb X.K C it) hc hN hy hyl hsw hi ok (fun s H C0 cl fp => (hg s H C0 cl fp).pg) (fun s H C0 cl fp => (ht s H C0 cl fp).run) (fun s H C0 cl fp => he s H C0 cl fp) hs).imp fun D σ H ⟨ρ, B, S, h⟩ => by
    refine comp_go (t := t) (hg {} (fun _ => none) 0 [] []).ok (sub_of sub) ⟨ρ, B, S, ?_⟩
    have h2 : pS X.K C D B (bE ((lComp it g t f (own.map (·.2)) ρ).bind fun ds => .ok (.list ds)) ρ fun d => .nx (ρ.set i (.fz d))) := h
    cases el : lComp it g t f (own.map (·.2)) ρ with
    | ok ds =>
      rw [el] at h2
      intro a xs B1 H1 x1 n1 n2 h1 t1
      obtain ⟨B2, x2, t2⟩ := lst_frz x1 n1 n2 h1 t1
      exact h2 _ B2 H1 x2.b ((S.on x2).set i t2)
    | er k => rw [el] at h2; exact fun B' H' x => h2 σ B' H' x.b (S.on x)
    | no => rw [el] at h2; exact h2.elim
theorem xs_ownlc (i : Nat) {y : Str} {py spos : Pos} {elt tg iter : Expr} {ifs : List Expr} {scope : Scope} {own : List (Str × Nat)} {it : DL} {g : Tg} {gt : TG} {is : List Nat} {t : DT} {f : DE} (hc : X.calm = true) (hN : X.N.Nodup) (hy : X.N[i]? = some y) (hyl : X.env.scope.names.lookup y = some .local)
    (hsw : swapsWith (.ListComp elt [⟨tg, iter, ifs, 0⟩] scope pos) (some (.Name y py)) spos.line X.env = pure true) (hi : XIb X C tg iter it) (ok : BlkOk X.N X.env.scope scope own)
    (hg : ∀ (s : Shared) (H : Hp) (C0 : Addr) (cl : List (Str × Addr)) (fp : List Addr), XG (X.blk s H scope (compEnvC scope cl C0 X.env) fp) tg gt g is) (ht : ∀ (s : Shared) (H : Hp) (C0 : Addr) (cl : List (Str × Addr)) (fp : List Addr), XTs (X.blk s H scope (compEnvC scope cl C0 X.env) fp) C.blk ifs t)
    (he : ∀ (s : Shared) (H : Hp) (C0 : Addr) (cl : List (Str × Addr)) (fp : List Addr), XE (X.blk s H scope (compEnvC scope cl C0 X.env) fp) C.blk elt f) (sub : is.all (fun i => (own.map (·.2)).contains i) = true := by rfl)
    (hs : ∀ x, foldedSetIterable iter X.env x = pure x := by intro _; rfl) : XS X C (.Assign [.Name y py] (.ListComp elt [⟨tg, iter, ifs, 0⟩] scope pos) spos) (sOwn i (lComp it g t f (own.map (·.2)))) :=
  (ps_setLc (te := tE X.K C.blk f) (wi := tIb X.K C it) hc hN hy hyl hsw hi ok (fun s H C0 cl fp => (hg s H C0 cl fp).pg) (fun s H C0 cl fp => (ht s H C0 cl fp).run) (fun s H C0 cl fp => he s H C0 cl fp) hs).imp fun D σ H ⟨ρ, B, S, h⟩ => by
    refine comp_go (t := t) (hg {} (fun _ => none) 0 [] []).ok (sub_of sub) ⟨ρ, B, S, ?_⟩
    have h2 : pS X.K C D B (bE (lComp it g t f (own.map (·.2)) ρ) ρ fun ds => .nx (ρ.set i (.ow ds))) := h
    cases el : lComp it g t f (own.map (·.2)) ρ with
    | ok ds =>
      rw [el] at h2
      intro a xs B1 H1 x1 n1 n2 h1 t1
      exact h2 _ B1 H1 x1.b (S.setL i x1 n1 rfl ⟨a, xs, rfl, h1, n2, S.x.h.free n1, t1⟩)
    | er k => rw [el] at h2; exact fun B' H' x => h2 σ B' H' x.b (S.on x)
    | no => rw [el] at h2; exact h2.elim
end

/-! ### the rule for a def -/
theorem start_get {N : List Str} {vs : List V} {i : Nat} (h : i < vs.length) : (L2.start N vs)[i]? = (vs.map some)[i]? := by
  unfold L2.start
  rw [List.getElem?_append_left (by rw [List.length_map]; exact h)]
theorem stt_start {K : PySem.W.Frag} {C : Cc} {N : List Str} {vs : List V} {ss : List Sl} (sm : Same C.B0 C.G) (ha : SlAll K C.ec C.B0 vs ss) (hn : vs.length ≤ N.length) : Stt K C C.B0 C.G (L2.start N vs) (ss ++ List.replicate (N.length - ss.length) .nil) := by
  have hl := Paired.length ha
  have at_ : ∀ (i : Nat) (s : Sl), (ss ++ List.replicate (N.length - ss.length) Sl.nil)[i]? = some s → (∃ v, vs[i]? = some v ∧ SlA K C.ec C.B0 v s) ∨ s = .nil := fun i s e => by
    by_cases h : i < ss.length
    · rw [List.getElem?_append_left h] at e
      have : ∀ {vs : List V} {ss : List Sl} {i : Nat} {s : Sl}, SlAll K C.ec C.B0 vs ss → ss[i]? = some s → ∃ v, vs[i]? = some v ∧ SlA K C.ec C.B0 v s := by
        intro vs ss i s h e
        induction h generalizing i with
        | nil => simp at e
        | cons r t ih =>
          cases i with
          | zero => simp at e; subst e; exact ⟨_, rfl, r⟩
          | succ i => exact ih (by simpa using e)
      exact .inl (this ha e)
    · rw [List.getElem?_append_right (by omega), List.getElem?_replicate] at e
      split at e
      · exact .inr (Option.some.inj e).symm
      · cases e
  refine ⟨Ext.refl sm, ⟨?_, fun i s e n => ?_, fun i j s t v hij e1 e2 o1 _ _ _ => ?_⟩⟩
  · unfold L2.start
    rw [List.length_append, List.length_append, List.length_map, List.length_replicate, List.length_replicate]
    omega
  · rcases at_ i s e with ⟨v, h1, h2⟩ | h
    · refine ⟨v, ?_, SlV.ofA h2⟩
      have hi := (List.getElem?_eq_some_iff.mp h1).1
      rw [start_get hi, List.getElem?_map, h1]
      rfl
    · exact absurd h n
  · rcases at_ i s e1 with ⟨v, h1, h2⟩ | h
    · cases s with
      | ow _ => exact h2.elim
      | dc _ => exact h2.elim
      | _ => cases o1
    · subst h; cases o1
theorem okD {P : Program} {w : World} {K : PySem.W.Frag} {mg : Str → Option Value} {base : Heap} {ec : XK → Addr} {x qual : Str} {st : Stmt} {f : Addr} {fd : FuncData} {N ps : List Str} {k : Nat} {g : DS} (F : L2.Fun K x qual st f fd) (S : FnScope N ps (defScope st)) (hps : ps.length ≤ N.length)
    (body : ∀ (cdv : Value) (A : Around) (outer : List PySem.Env) (s : Shared) (H B : Hp) (E : L2.XK), Room k (A.deeper (envOfC qual (defScope st) s.heap.objs.size f cdv)) →
      Takes (cxOf (L2.CX P w) P w K mg base N qual (defScope st) f cdv A outer s H E) (fun cls d _ H' => E cls d H') → PassesOwn (model P w) (A.deeper (envOfC qual (defScope st) s.heap.objs.size f cdv)) (envOfC qual (defScope st) s.heap.objs.size f cdv) (cxOf (L2.CX P w) P w K mg base N qual (defScope st) f cdv A outer s H E).xe →
      XSs (cxOf (L2.CX P w) P w K mg base N qual (defScope st) f cdv A outer s H E) { G := H, B0 := B, W := fun cls d _ H' => E cls d H', ec := ec } (defBody st) g) :
    FnOk P w K mg base (L2.CX P w) (k + 1) f fd ps (spD K ec ps.length (runD g N.length)) := by
  refine F.okX S (fun vs H Q E h => h.1) (fun cdv A outer s H vs Q E hr hsp => ?_)
  obtain ⟨hlen, B, ss, sm, ha, post⟩ := hsp
  refine ⟨_, body cdv A outer s H B E hr (takes_of rfl rfl rfl rfl) (passes_of (X := cxOf (L2.CX P w) P w K mg base N qual (defScope st) f cdv A outer s H E) rfl), _, B, stt_start (C := { G := H, B0 := B, W := fun cls d _ H' => E cls d H', ec := ec }) sm ha (by omega), ?_⟩
  unfold runD at post
  cases eg : g (ss ++ List.replicate (N.length - ss.length) .nil) with
  | nx ρ' => rw [eg] at post; exact fun σ' B' H' _ S' => post _ B' H' S'.x .non
  | rt d => rw [eg] at post; exact fun v B' H' _ x t => post v B' H' x t
  | er k ρ' => rw [eg] at post; exact fun σ' B' H' _ S' => post B' H' S'.x
  | bk ρ' => rw [eg] at post; exact post.elim
  | ct ρ' => rw [eg] at post; exact post.elim
  | no => rw [eg] at post; exact post.elim
/-- the def's part of the text, its place -/
theorem fnD {P : Program} {w : World} {K : PySem.W.Frag} {mg : Str → Option Value} {base : Heap} {ec : XK → Addr} {x qual : Str} {st : Stmt} {f : Addr} {fd : FuncData} {ps : List Str} {k : Nat} {g : DF} (F : L2.Fun K x qual st f fd) (hm : mg x = some (.ref f)) (hb : Binds K fd ps []) (h : FnOk P w K mg base (L2.CX P w) k f fd ps (spD K ec ps.length g)) : Fn P w K mg base ec x ps k g := ⟨f, fd, h, hm, F.kp, hb⟩
end MS

/-! MsLayG: sorted, sets, raise, try. -/
namespace PySem.W
open PySem PySem.Calls PyProof.Rows
section
variable {prog : Program} {w : World} {A : Around} {E : Value → Shared → Prop} {s : Shared}
theorem ms_collect_tup {l : Addr} {vs : List Value} {Q : List Value → Shared → Prop} (hl : IsTup s.heap l vs.toArray)
    (h : Q vs { s with heap := (s.heap.push (seqObj "list" #[] 0)).update s.heap.objs.size (Obj.mapSeq (· ++ vs.toArray)) }) (hsz : vs.length ≤ sizeLine) :
    wpAny (model prog w) A (collect (.ref l)) Q E s := by
  obtain ⟨o, ho, hc, n, hd⟩ := id hl
  unfold collect
  refine wpAny_bind (wpAny_runValue (codeAny_builtin entry_proto_collect' ?_))
  show wpAny _ _ (do again (.builtin "list.__iadd__" ⟨[← newList [], .ref l], []⟩)) _ _ s
  refine wpAny_bind (wpAny_newList (wpAny_pure ⟨Code.quiet_builtin _ (by decide +kernel), codeAny_builtin entry_list_iadd' ?_⟩))
  show wpAny _ _ (Builtin.List.listExtendWith (.ref s.heap.objs.size) (.ref l) (.ref s.heap.objs.size)) _ _ { s with heap := s.heap.push (seqObj "list" #[] 0) }
  unfold Builtin.List.listExtendWith
  have ho' : (s.heap.push (seqObj "list" #[] 0)).get? l = some o := Heap.get?_push_of_some _ ho
  refine wpAny_bind (wpAny_typeOf (T := "tuple") ⟨o, ho', hc⟩ ?_)
  have ht : (Value.type "tuple" == Value.type "tuple") = true := by rfl
  rw [if_pos (by rw [ht]; simp)]
  refine wpAny_bind (listItems_at ho' hd ?_)
  refine wpAny_bind (listItems_at (xs := #[]) (n := 0) (Heap.get?_push_size _ rfl) rfl ?_)
  rw [if_neg (by simp)]
  refine wpAny_bind (listUpdate_at (xs := #[]) (n := 0) (Heap.get?_push_size _ rfl) rfl ?_ (Nat.zero_le _) (by show (#[] ++ vs.toArray).size ≤ sizeLine + 1; simp only [Array.size_append, List.size_toArray, List.length_nil]; omega))
  refine wpAny_pure ?_
  show wpAny (model prog w) A (do
      let o ← load s.heap.objs.size
      match o.data with
      | .seq xs _ => pure xs.toList
      | _ => unsupported "internal:collect") Q E { s with heap := (s.heap.push (seqObj "list" #[] 0)).update s.heap.objs.size (Obj.mapSeq (· ++ vs.toArray)) }
  refine wpAny_bind (wpAny_load (get?_update_seq (Heap.get?_push_size _ rfl) _) ?_)
  show wpAny _ _ (pure ((#[] : Array Value) ++ vs.toArray).toList) Q E _
  rw [show ((#[] : Array Value) ++ vs.toArray).toList = vs by simp]
  exact wpAny_pure h
theorem ms_sorts_few {vs : List Value} {ds : List PyData} (e : EachIs (fun v d => ∃ as, Reads s.heap v d as) vs ds) (hal : AllAlike ds) (h1 : vs.length ≤ 1) (hn : ∀ d, d ∈ ds → d ≠ .none) (hu : ∀ d, d ∈ ds → A.units + d.depth < cLine) : SortsAt prog w A s (dataKind s.heap ds) vs := by
  refine ⟨fun v hv => ?_, general', fun E x y a b Q ha hb hq => ?_, fun h2 => absurd h2 (by omega)⟩
  · obtain ⟨d, hd, as, r⟩ := e.left v hv
    exact ⟨_, dataKind_some hal hd r⟩
  · obtain ⟨d, as, hd, ra, rfl⟩ := dataKind_inv ha
    obtain ⟨d', as', hd', rb, rfl⟩ := dataKind_inv hb
    show wpAny _ _ (oneLt' false x y) _ _ _
    exact oneLt_alike (fun q => by cases q) ra rb (hal d hd d' hd') (hn d hd) (Nat.lt_of_le_of_lt (Nat.add_le_add_left (Nat.min_le_left _ _) _) (hu d hd)) hq
theorem ms_collect_kdl {T : String} {r d : Addr} {n : Nat} {P : Nat → Value → Prop} {OK : Heap → Prop} {R : List Value → Shared → Prop} (K : KdlSrc prog w T r d n P OK) (hh : A.handled = none) (hok : OK s.heap) (hn : n ≤ sizeLine)
    (h : ∀ (h' : Heap) (tk : Nat) (acc : Array Value), (∀ b o, s.heap.get? b = some o → h'.get? b = some o) → s.heap.objs.size ≤ h'.objs.size → ItemsOf P acc n → R acc.toList { s with heap := h', toks := tk }) :
    wpAny (model prog w) A (collect (.ref r)) R E s := by
  have hlt := K.there _ hok
  unfold collect
  refine wpAny_bind (wpAny_runValue (codeAny_builtin entry_proto_collect' ?_))
  rw [Around.under_plainId PySem.F.plain_proto_collect _]
  show wpAny _ A.in1 (newList [] >>= fun l => again (.builtin "list.__iadd__" ⟨[l, .ref r], []⟩)) _ _ s
  refine wpAny_bind (wpAny_newObj_type ?_)
  refine wpAny_pure ⟨plainId_quiet PySem.F.plain_list_iadd _, codeAny_builtin entry_list_iadd' ?_⟩
  rw [Around.under_plainId PySem.F.plain_list_iadd _]
  have hS₁ : (s.heap.push { cls := .type "list", data := .seq ([] : List Value).toArray }).get? s.heap.objs.size = some { cls := .type "list", data := .seq #[] } := Heap.get?_push_size _ rfl
  show wpAny _ A.in1 (Builtin.List.listExtendWith (.ref s.heap.objs.size) (.ref r) (.ref s.heap.objs.size)) _ _ _
  have key := kdl_extend (prog := prog) (w := w) (A := A) (s := { s with heap := s.heap.push { cls := .type "list", data := .seq ([] : List Value).toArray } })
    (R := fun (q : Result) (s' : Shared) => ∃ (h' : Heap) (tk : Nat) (acc' : Array Value) (c' : Nat), q = .ok (.ret (.ref s.heap.objs.size)) ∧ s' = { s with heap := h', toks := tk } ∧
      (∀ b o, s.heap.get? b = some o → h'.get? b = some o) ∧ h'.get? s.heap.objs.size = some { cls := .type "list", dict := none, data := .seq acc' c', slots := #[] } ∧ ItemsOf P acc' n)
    K hh (K.keep _ _ hok fun b _ o e => Heap.get?_push_of_some _ e) s.heap.objs.size (Nat.ne_of_gt hlt.1) (Nat.ne_of_gt hlt.2) (.ref s.heap.objs.size) 0 hS₁
    (fun h' tk acc' c' hk hS' hacc => ⟨h', tk, acc', c', rfl, rfl, fun b o e => hk b o (Nat.ne_of_lt (Heap.lt_size e)) (Heap.get?_push_of_some _ e), hS', hacc⟩) hn
  refine wpAny_mono key (fun fin s' x => ?_) fun e s' x => ?_
  · cases fin with
    | done f =>
      obtain ⟨h', tk, acc', c', e, rfl, hk, hS', hacc⟩ := x
      cases e
      show wpAny _ A (load s.heap.objs.size >>= _) _ _ _
      refine wpAny_bind (wpAny_load hS' ?_)
      refine wpAny_pure ?_
      exact h h' tk acc' hk (Nat.le_of_lt (Heap.lt_size hS')) hacc
    | again c₁ =>
      refine ⟨x.1, codeAny_mono x.2 fun q s₂ y => ?_⟩
      obtain ⟨h', tk, acc', c', rfl, rfl, hk, hS', hacc⟩ := y
      show wpAny _ A (load s.heap.objs.size >>= _) _ _ _
      refine wpAny_bind (wpAny_load hS' ?_)
      refine wpAny_pure ?_
      exact h h' tk acc' hk (Nat.le_of_lt (Heap.lt_size hS')) hacc
  · obtain ⟨_, _, _, _, e', _⟩ := x
    cases e'
/-- sorted of what is collected -/
theorem ms_sorted {r : Addr} {vs : List Value} {β : Type} {bs : List β} {enc : β → PyData} {R : Value → β → Prop} {Q : Value → Shared → Prop}
    (hcol : ∀ (Q' : List Value → Shared → Prop) (E' : Value → Shared → Prop), (∀ h' tk, (∀ b o, s.heap.get? b = some o → h'.get? b = some o) → s.heap.objs.size ≤ h'.objs.size → Q' vs { s with heap := h', toks := tk }) → wpAny (model prog w) A.in1 (collect (.ref r)) Q' E' s)
    (e : EachIs R vs bs) (er : EachIs (fun v b => ∃ as, Reads s.heap v (enc b) as) vs bs) (hal : AllAlike (bs.map enc)) (hk : Sortable (bs.map enc) ∨ (bs.length ≤ 1 ∧ ∀ d, d ∈ bs.map enc → d ≠ .none)) (hL : bs.length ≤ sizeLine)
    (hu : ∀ b, b ∈ bs → A.units + 2 + (enc b).depth < cLine)
    (h : ∀ h' tk a out c, (∀ b o, s.heap.get? b = some o → h'.get? b = some o) → s.heap.objs.size ≤ a → h'.get? a = some (seqObj "list" (List.toArray out) c) → EachIs R out (bs.mergeSort (dataLe false enc)) → Q (.ref a) { s with heap := h', toks := tk }) :
    wpAny (model prog w) A (call (.builtin "sorted") [.ref r]) Q E s := by
  refine call_function_entry kind_sorted plain_sorted entry_sorted (args_sorted1 _) ?_
  unfold Builtin.«sorted»
  refine wpAny_bind (m := checkCount "sorted" 1 1 _) (wpAny_pure ?_)
  refine wpAny_bind (hcol _ _ fun h1 tk k1 hsz => ?_)
  have hvl : vs.length ≤ sizeLine := by rw [e.length]; exact hL
  refine wpAny_bind (wpAny_newList ?_ hvl)
  have k2 : ∀ b o, h1.get? b = some o → (h1.push (seqObj "list" vs.toArray 0)).get? b = some o := fun b o q => Heap.get?_push_of_some _ q
  have ho : (h1.push (seqObj "list" vs.toArray 0)).get? h1.objs.size = some (seqObj "list" vs.toArray 0) := Heap.get?_push_size _ rfl
  have k3 : ∀ b o, s.heap.get? b = some o → (sortingHeap (h1.push (seqObj "list" vs.toArray 0)) h1.objs.size vs).get? b = some o := fun b o q => sortingHeap_old (Nat.ne_of_lt (Heap.lt_size (k1 _ _ q))) (k2 _ _ (k1 _ _ q))
  have er' : EachIs (fun v b => ∃ as, Reads (sortingHeap (h1.push (seqObj "list" vs.toArray 0)) h1.objs.size vs) v (enc b) as) vs bs := er.mono fun _ _ ⟨as, r⟩ => ⟨as, PyProof.Rows.Reads.keeps k3 r⟩
  have S : SortsAt prog w A.in1.in1 { s with heap := sortingHeap (h1.push (seqObj "list" vs.toArray 0)) h1.objs.size vs, toks := tk } (dataKind (sortingHeap (h1.push (seqObj "list" vs.toArray 0)) h1.objs.size vs) (bs.map enc)) vs := by
    have em : EachIs (fun v d => ∃ as, Reads (sortingHeap (h1.push (seqObj "list" vs.toArray 0)) h1.objs.size vs) v d as) vs (bs.map enc) := each_map (R := fun v d => ∃ as, Reads (sortingHeap (h1.push (seqObj "list" vs.toArray 0)) h1.objs.size vs) v d as) enc er'
    have hu' : ∀ d, d ∈ bs.map enc → A.in1.in1.units + d.depth < cLine := bound_map (A := A.in1.in1) hu
    rcases hk with hk | ⟨hf, hn⟩
    · exact SortsAt.data (s := { s with heap := sortingHeap (h1.push (seqObj "list" vs.toArray 0)) h1.objs.size vs, toks := tk }) em hal hk hu'
    · exact ms_sorts_few (s := { s with heap := sortingHeap (h1.push (seqObj "list" vs.toArray 0)) h1.objs.size vs, toks := tk }) em hal (by rw [e.length]; exact hf) hn hu'
  show wpAny _ _ _ _ _ { s with heap := h1.push (seqObj "list" vs.toArray 0), toks := tk }
  refine wpAny_bind (wpAny_holding (wpAny_call_entry slot_list_sort ⟨_, ho, rfl⟩ entry_list_sort (list_sort_vals (s := { s with heap := h1.push (seqObj "list" vs.toArray 0), toks := tk }) ho S hvl ⟨.none, rfl, ?_⟩) (args_list_sort _)))
  have so := sortVals_data (R := R) false e er' hal
  obtain ⟨c, hc⟩ := sortedHeap_at (vs := vs) (out := (sortVals (dataKind (sortingHeap (h1.push (seqObj "list" vs.toArray 0)) h1.objs.size vs) (bs.map enc)) false vs vs).toArray) ho
  exact wpAny_pure ⟨_, rfl, h _ tk _ _ c (fun b o q => (sortedHeap_old (Nat.ne_of_lt (Heap.lt_size (k1 _ _ q))) (Heap.lt_size (k2 _ _ (k1 _ _ q)))).trans (k2 _ _ (k1 _ _ q))) hsz hc so⟩
end
end PySem.W
namespace MS
open PySem L2 PyProof.Rows

theorem zip_snd {α β : Type} : ∀ {l : List α} {m : List β}, l.length = m.length → (l.zip m).map Prod.snd = m
  | [], [], _ => rfl
  | _ :: _, [], h => by cases h
  | [], _ :: _, h => by cases h
  | a :: l, b :: m, h => by
    rw [List.zip_cons_cons, List.map_cons, zip_snd (by simpa using h)]
theorem each_of {B : Hp} : ∀ {vs : List V} {ds : List PyData} {its : List Value}, DtAll B vs ds → Vals vs its → PySem.W.EachIs (fun u (b : V × PyData) => RelV b.1 u ∧ Dt B b.1 b.2) its (vs.zip ds)
  | _, [], _, t, r => by cases t; cases r; exact .nil
  | _, d :: ds, _, t, r => by
    cases t with
    | cons t1 t2 =>
      cases r with
      | cons r1 r2 => exact .cons ⟨r1, t1⟩ (each_of t2 r2)
theorem each_back {B : Hp} : ∀ {zs : List (V × PyData)} {its : List Value}, PySem.W.EachIs (fun u (b : V × PyData) => RelV b.1 u ∧ Dt B b.1 b.2) its zs → Vals (zs.map Prod.fst) its ∧ DtAll B (zs.map Prod.fst) (zs.map Prod.snd)
  | _, _, .nil => ⟨.nil, .nil⟩
  | _, _, .cons h t => ⟨.cons h.1 (each_back t).1, .cons h.2 (each_back t).2⟩
section
variable {X : Cx} {C : Cc} {e a b c : Expr} {es : List Expr} {f g : DE} {fb : DB} {l : DL} {t : DT} {pos p : Pos}
theorem sort_core {n : Nat} (hr : Room n X.A) {pins : List (Addr × Obj)} {s : Shared} {σ : L2.St} {B H : Hp} {Q : VK} {r : Addr} {vs : List V} {ds zs : List PyData} {its : List Value} (I : Inv X pins σ H s) (sm : Same B H) (td : DtAll B vs ds) (rv : Vals vs its)
    (hcol : ∀ (Q' : List Value → Shared → Prop) (E' : Value → Shared → Prop), (∀ h' tk, (∀ b o, s.heap.get? b = some o → h'.get? b = some o) → s.heap.objs.size ≤ h'.objs.size → Q' its { s with heap := h', toks := tk }) → wpAny (model X.prog X.w) X.A.in1 (collect (.ref r)) Q' E' s)
    (hs : sortD ds = .ok zs) (q : ∀ p ys, H p = none → DtAll B ys zs → Q (.ref p) (upd H p (.lst ys))) : wpAny (model X.prog X.w) X.A (call (.builtin "sorted") [.ref r]) (EP X pins σ Q) X.xe s := by
  obtain ⟨⟨hl, ho⟩, hz⟩ := if_ok (show (if ds.length ≤ lim ∧ sortOk ds = true then Rs.ok (ds.mergeSort (PySem.W.dataLe false id)) else .no) = .ok zs from hs)
  unfold sortOk at ho
  rw [Bool.and_eq_true, Bool.and_eq_true] at ho
  obtain ⟨⟨o1, o2⟩, o3⟩ := ho
  have em := zip_snd td.len
  have hal : PySem.W.AllAlike ((vs.zip ds).map Prod.snd) := by
    rw [em]
    intro d hd d' hd'
    exact List.all_eq_true.mp (List.all_eq_true.mp o1 d hd) d' hd'
  have hlen : (vs.zip ds).length = ds.length := by rw [List.length_zip, td.len, Nat.min_self]
  have hk : PySem.W.Sortable ((vs.zip ds).map Prod.snd) ∨ ((vs.zip ds).length ≤ 1 ∧ ∀ d, d ∈ (vs.zip ds).map Prod.snd → d ≠ .none) := by
    rw [em, hlen]
    rw [Bool.or_eq_true, Bool.or_eq_true, Bool.and_eq_true] at o2
    rcases o2 with (⟨w1, w2⟩ | w) | w
    · refine .inr ⟨of_decide_eq_true w1, fun d hd => ?_⟩
      have := List.all_eq_true.mp w2 d hd
      intro q; subst q; cases this
    · refine .inl (.inl fun d hd => ?_)
      have := List.all_eq_true.mp w d hd
      unfold isTupC at this
      split at this
      · exact ⟨_, _, rfl⟩
      · cases this
    · refine .inl (.inr fun d hd => ?_)
      have := List.all_eq_true.mp w d hd
      unfold isOth at this
      split at this
      · cases this
      · cases this
      · rename_i h1 h2
        exact ⟨h1, fun xs q => h2 xs q⟩
  refine PySem.W.ms_sorted (enc := Prod.snd) (bs := vs.zip ds) (R := fun u b => RelV b.1 u ∧ Dt B b.1 b.2) hcol (each_of td rv) ((each_of td rv).mono fun u b z => (z.2.on sm).dp.reads I _ _ _ z.1) hal hk (by rw [hlen]; exact lim_le hl) (fun b hb => ?_) fun h' tk a out c k1 ha hg so => ?_
  · have hm : b.2 ∈ ds := by rw [← em]; exact List.mem_map.mpr ⟨b, hb, rfl⟩
    have := of_decide_eq_true (List.all_eq_true.mp o3 _ hm)
    have := hr.un
    omega
  · obtain ⟨r1, t1⟩ := each_back so
    have e2 : ((vs.zip ds).mergeSort (PySem.W.dataLe false Prod.snd)).map Prod.snd = zs := by
      rw [← hz]
      exact (List.map_mergeSort (r := PySem.W.dataLe false Prod.snd) (s := PySem.W.dataLe false id) (f := Prod.snd) (l := vs.zip ds) (fun _ _ _ _ => rfl)).trans (by rw [em])
    rw [e2] at t1
    have hn := I.hok.fresh ha
    refine ⟨.ref a, _, I.laid (t' := tk) (o := .lst (((vs.zip ds).mergeSort (PySem.W.dataLe false Prod.snd)).map Prod.fst)) k1 ha ?_, rfl, q a _ hn t1⟩
    refine ⟨?_, out, c, r1, hg⟩
    rw [t1.len, ← e2, List.length_map, List.length_mergeSort, hlen]
    exact lim_le hl
theorem size_upd (h : Heap) (vs : List Value) : h.objs.size ≤ ((h.push (seqObj "list" #[] 0)).update h.objs.size (Obj.mapSeq (· ++ vs.toArray))).objs.size := by
  rw [Heap.size_update, size_push']
  exact Nat.le_succ _
theorem keep_upd {h : Heap} {vs : List Value} (b : Addr) (o : Obj) (e : h.get? b = some o) : ((h.push (seqObj "list" #[] 0)).update h.objs.size (Obj.mapSeq (· ++ vs.toArray))).get? b = some o := by
  rw [Heap.get?_update_ne _ _ _ _ (Nat.ne_of_lt (Heap.lt_size e))]
  exact Heap.get?_push_of_some _ e
def rSort (K : PySem.W.Frag) (C : Cc) : List V → Hp → VK → Prop := fun xs H Q => ∃ v B s zs, xs = [v] ∧ Same B H ∧ SlV K C B H v s ∧ sortS s = .ok zs ∧ ∀ p ys B', Ext B H B' H → H p = none → DtAll B' ys zs → Q (.ref p) (upd H p (.lst ys))
theorem adopt {B H : Hp} (sm : Same B H) : ∃ B' : Hp, Ext B H B' H ∧ ∀ (a : Addr) (xs : List V), H a = some (HO.tup xs) → B' a = some (HO.tup xs) := by
  refine ⟨fun a => match H a with
    | some (.tup xs) => some (.tup xs)
    | _ => B a, ⟨fun a o e => ?_, Same.refl _, fun a o e => ?_, fun a o e => ?_⟩, fun a xs e => ?_⟩
  · have h := sm _ _ e
    show (match H a with | some (.tup xs) => some (.tup xs) | _ => B a) = some o
    rw [h]
    cases o <;> first | rfl | exact e
  · have e' : (match H a with | some (.tup xs) => some (.tup xs) | _ => B a) = some o := e
    split at e'
    · rename_i xs q; rw [q]; exact e'
    · exact sm _ _ e'
  · have e' : (match H a with | some (.tup xs) => some (.tup xs) | _ => B a) = some o := e
    split at e'
    · rename_i xs q
      have e2 : HO.tup xs = o := Option.some.inj e'
      exact .inr (.inr ⟨by rw [q, e2], xs, e2.symm⟩)
    · exact .inl e'
  · show (match H a with | some (HO.tup xs) => some (HO.tup xs) | _ => B a) = some (HO.tup xs)
    rw [e]
theorem keys_all {B H : Hp} (ad : ∀ (a : Addr) (xs : List V), H a = some (HO.tup xs) → B a = some (HO.tup xs)) : ∀ {ks : List (List Key × V)} {bs : List Addr} {kvs : List (List Int × PyData)}, IsKeys H ks bs → KvT H ks kvs → DtAll B (bs.map V.ref) (kvs.map fun p => PyData.tuple (p.1.map .int))
  | _, _, _, .nil, .nil => .nil
  | _, _, _, .cons r t, .cons r' t' => by
    refine .cons ?_ (keys_all ad t t')
    have h := r
    rw [r'.1, kV_inl] at h
    exact Dt.tup (ad _ _ h) (DtAll.of_ints _)
theorem cr_srt {n : Nat} (hr : Room n X.A) : CallR X (.builtin "sorted") (rSort X.K C) := by
  intro pins s σ H xs us Q I r h
  obtain ⟨v, B, sl, zs, rfl, sm, hv, hs, q⟩ := h
  obtain ⟨u, rfl, rx⟩ := vals1 r
  have onL : ∀ {a : Addr} {vs : List V} {ds : List PyData}, v = .ref a → H a = some (.lst vs) → DtAll B vs ds → sortD ds = .ok zs → wpAny (model X.prog X.w) X.A (call (.builtin "sorted") [u]) (EP X pins σ Q) X.xe s := by
    intro a vs ds ea ha td hd
    subst ea
    obtain rfl : u = Value.ref a := rx
    obtain ⟨its, rv, pl, hz⟩ := I.list (SqL.of ha)
    exact sort_core hr I sm td rv (fun Q' E' k => collect_list pl.isList (k _ s.toks keep_upd (size_upd _ _)) (by rw [← rv.length]; exact hz)) hd fun p ys hp ty => q p ys B (Ext.refl sm) hp ty
  cases sl with
  | fz d =>
    have hv' : Dt B v d := hv
    cases hv' with
    | @lst a vs ds h1 h2 => exact onL rfl (sm _ _ h1) h2 hs
    | @tup a vs ds h1 h2 =>
      obtain rfl : u = Value.ref a := rx
      obtain ⟨its, rv, pl, hz⟩ := I.tuple (SqT.of (sm _ _ h1))
      exact sort_core hr I sm h2 rv (fun Q' E' k => PySem.W.ms_collect_tup pl (k _ s.toks keep_upd (size_upd _ _)) (by rw [← rv.length]; exact hz)) hs fun p ys hp ty => q p ys B (Ext.refl sm) hp ty
    | _ => cases hs
  | ow ds =>
    obtain ⟨a, vs, rfl, z1, z2, z3, z4⟩ := hv
    exact onL rfl z1 z4 hs
  | dc kvs =>
    obtain ⟨a, ks, rfl, z1, z2, z3, z4⟩ := hv
    obtain rfl : u = Value.ref a := rx
    obtain ⟨B', xB, ad⟩ := adopt sm
    obtain ⟨zl, hsm, xs, pr, o, es, ep, ho, hx, hdt, he, hn⟩ := (show ObjOk X.prog X.w H s.heap a (.dT ks) from I.hok a _ z1)
    have l1 : es.size = xs.length := size_of_entries he
    have l2 : ks.length = xs.length := Paired.length pr
    have td : DtAll B' ((xs.map fun x => x.2.1).map V.ref) (kvs.map fun p => PyData.tuple (p.1.map .int)) := keys_all ad (isKeys_of pr) (z4.on sm)
    have rv : Vals ((xs.map fun x => x.2.1).map V.ref) ((xs.map fun x => x.2.1).map Value.ref) := vals_refs _
    refine sort_core hr I xB.s td rv (fun Q' E' k => PySem.W.ms_collect_kdl (kdl_raw hsm hx hdt) hr.hd ho (by omega) fun h' tk acc kp hs2 it => ?_) hs fun p ys hp ty => q p ys B' xB hp ty
    have ea : acc.toList = xs.map fun x => Value.ref x.2.1 := by
      have hl : acc.toList.length = xs.length := by rw [Array.length_toList, it.1]; exact l1
      apply List.ext_getElem?
      intro j
      rw [List.getElem?_map]
      cases hj : acc.toList[j]? with
      | none =>
        have h1 := List.getElem?_eq_none_iff.mp hj
        rw [List.getElem?_eq_none (by omega)]
        all_goals rfl
      | some v =>
        obtain ⟨en, hen, hv⟩ := it.2 j v (by rw [← Array.getElem?_toList]; exact hj)
        have qe := entry_at he j
        rw [hen] at qe
        cases hb : xs[j]? with
        | none =>
          rw [hb] at qe
          exact nomatch (show some en = none from qe)
        | some b =>
          rw [hb] at qe
          have e2 : en = entryOfKey (tupleKind (mixKind X.prog X.w)) b := Option.some.inj qe
          rw [hv, e2]
          all_goals rfl
    have eb : acc.toList = (xs.map fun x => x.2.1).map Value.ref := by rw [ea, List.map_map]; all_goals rfl
    rw [eb]
    exact k h' tk kp hs2
  | nil => exact hv.elim
  | ex _ => cases hs
  | sc _ => cases hs
  | bx _ => cases hs
theorem sortS_ne (s : Sl) (k : MS.XK) : sortS s ≠ .er k := by
  intro h
  unfold sortS at h
  split at h <;> first | exact if_ne h | cases h
theorem xl_sorted (T : Txs X.mg) {n : Nat} (hr : Room n X.A) (ha : XB X C a fb) (hg : Gl X "sorted" := by rfl) (he : starEach (a :: []) X.env = (false, eval a X.env) :: starEach [] X.env := by rfl) (hpl : (backTo pos (starEach [] X.env)).any (·.1) = false := by rfl) : XL X C (.Call (.Name "sorted" p) [a] [] pos) (lSorted fb) :=
  (pe_callB (cr_srt (C := C) hr) hg T.sorted (by decide +kernel) (pa_cons ha pa_nil he) (he := he) (hpl := hpl)).imp fun σ H Q ⟨ρ, B, S, h⟩ => ⟨ρ, B, S, bindP h fun s _ h v1 B1 H1 x1 t1 => by
    cases e : sortS s with
    | er k => exact absurd e (sortS_ne s k)
    | no => rw [e] at h; exact h.elim
    | ok zs =>
      rw [e] at h
      refine ⟨v1, B1, s, zs, rfl, x1.s, t1, e, fun p ys B' xB hp ty => ?_⟩
      exact h p ys B' _ (x1.trans (xB.trans (Ext.raw xB.s hp))) (x1.h.free hp) (xB.s.free hp) upd_same ty⟩

/-! ### errors -/
structure ExT (K : PySem.W.Frag) (mg : Str → Option Value) (x : Str) (Ca : Addr) : Prop where
  g : mg x = some (.ref Ca)
  k : PySem.W.keepIn K (.ref Ca) = true
  x : PySem.W.excIn K Ca [.type "ValueError", .type "Exception", .type "BaseException", .type "object"] "ValueError.__new__" = true
  b : PySem.W.subIn K (.ref Ca) (.type "BaseException") = some true
  t : PySem.W.typeIn K (.ref Ca) = some (.type "type")
theorem xs_raise {x m : Str} {k : MS.XK} {j : Nat} {p2 pos2 : Pos} (T : ExT X.K X.mg x (C.ec k)) (tk : Takes X C.W := by assumption) (hc : X.calm = true := by rfl) (hg : Gl X x := by rfl) (hdb : (x == ("__debug__" : Str)) = false := by decide) :
    XS X C (.Raise (some (.Call (.Name x p) [.Constant (.str m) j p2] [] pos)) none pos2) (sRaise k) :=
  (ps_raise hc tk (pmk_own PySem.F.excBase_ValueError T.x T.g T.k (raises_own T.b T.t) hg hdb)).imp fun D σ H ⟨ρ, B, S, h⟩ => h σ B H (Same.refl _) S
end
end MS

/-! MsLayH: sets, isinstance, try, the by-hand defs. -/
namespace MS
open PySem L2 PyProof.Rows
section
variable {X : Cx} {C : Cc} {e a b c : Expr} {es : List Expr} {f g : DE} {fb : DB} {l : DL} {t : DT} {pos p p2 q : Pos}
/-! ### sorted(set(..)), len(set(..)) -/
theorem cr_setTup (hc : X.calm = true) : CallR X (.type "set") (fun xs H Q => ∃ (a : Addr) (ns : List Int), xs = [V.ref a] ∧ SqT X.K H a (ns.map V.int) ∧ ns.length < 64 ∧ ∀ p c, H p = none → c ≤ ns.length → Q (.ref p) (upd H p (SetO X.w p (fun j => decide (j ∈ ns)) c))) := by
  intro pins s σ H xs us Q I r h
  obtain ⟨a, ns, rfl, ha, hn, q⟩ := h
  rw [Vals.ref1 r]
  obtain ⟨its, rv, pl, hz⟩ := I.tuple ha
  have hn' : H s.heap.objs.size = none := I.hok.fresh (Nat.le_refl _)
  refine call_set_tupI (P := X.prog) (w := X.w) ns (I.ok.hd hc) pl (by simpa using rv.ints) (by unfold scanBound; omega) fun h' tk c R hc2 k => ?_
  exact ⟨.ref s.heap.objs.size, _, I.laid (t' := tk) k (Nat.le_refl _) (setO_new R), rfl, q _ c hn' hc2⟩
theorem xl_ssi (T : Txs X.mg) (ha : XE X C a f) (hc : X.calm = true := by rfl) (hg : Gl X "sorted" := by rfl) (hg2 : Gl X "set" := by rfl) (na : starEach (a :: []) X.env = (false, eval a X.env) :: starEach [] X.env := by rfl)
    (nb : starEach (.Call (.Name "set" p2) [a] [] q :: []) X.env = (false, eval (.Call (.Name "set" p2) [a] [] q) X.env) :: starEach [] X.env := by rfl) (hpl : (backTo pos (starEach [] X.env)).any (·.1) = false := by rfl) (hpl2 : (backTo q (starEach [] X.env)).any (·.1) = false := by rfl) :
    XL X C (.Call (.Name "sorted" p) [.Call (.Name "set" p2) [a] [] q] [] pos) (lSSI f) :=
  (pe_callB (cr_sortedSet hc) hg T.sorted (by decide +kernel) (pa_cons (pe_callTy (cr_setTup hc) hg2 T.set PyProof.Rows.boot_set (pa_cons ha pa_nil na) (he := na) (hpl := hpl2)) pa_nil nb) (he := nb) (hpl := hpl)).imp fun σ H Q ⟨ρ, B, S, h⟩ => ⟨ρ, B, S, bindP h fun d _ h v1 B1 H1 x1 t1 => by
    cases t1 with
    | @tup a xs ds h1 h2 =>
      cases e : intsOf ds with
      | none => simp only [ssetI, e, ofO, Rs.bind_no] at h; exact h.elim
      | some ns =>
        simp only [ssetI, e, ofO, Rs.bind_ok] at h
        have h3 : pL C B H σ Q (if ns.length < 60 then .ok ((upI ns).map .int) else .no) := h
        by_cases hz : ns.length < 60
        · rw [if_pos hz] at h3
          have := h2.ints e
          subst this
          refine ⟨a, ns, rfl, SqT.of (x1.s _ _ h1), by omega, fun p c hp hcn => ⟨p, _, c, rfl, upd_same, by omega, fun ms r up hm hl hr => ?_⟩⟩
          have em : ms = upI ns := pw_unique (fun a b h h' => by omega) up (upI_up ns) fun x => by
            rw [hm, upI_mem]
            exact decide_eq_true_iff
          rw [em]
          have x2 := Ext.raw (o := SetO X.w p (fun j => decide (j ∈ ns)) c) x1.s hp
          exact h3 r _ B1 _ (x1.trans (x2.trans (Ext.raw x2.s hr))) (x1.h.free (x2.h.free hr)) (x2.s.free hr) upd_same (DtAll.of_ints _)
        · rw [if_neg hz] at h3
          exact h3.elim
    | _ => exact h.elim⟩
theorem pairs_all {B : Hp} : ∀ {vs : List V} {ds : List PyData} {ps : List (Int × Int)}, DtAll B vs ds → pairsOf ds = some ps → ∃ as : List Addr, vs = as.map V.ref ∧ as.length = ps.length ∧ ∀ i (h : i < as.length) (h' : i < ps.length), B as[i] = some (.tup [.int ps[i].1, .int ps[i].2])
  | _, [], ps, t, e => by
    cases t
    have e' : ([] : List (Int × Int)) = ps := Option.some.inj e
    subst e'
    exact ⟨[], rfl, rfl, fun i h => by simp at h⟩
  | _, d :: ds, ps, t, e => by
    cases t with
    | cons t1 t2 =>
      unfold pairsOf at e
      cases e1 : pairOf d with
      | none => rw [e1] at e; cases e
      | some p =>
        cases e2 : pairsOf ds with
        | none => rw [e1, e2] at e; cases e
        | some qs =>
          rw [e1, e2] at e
          have e' : p :: qs = ps := Option.some.inj e
          subst e'
          obtain ⟨as, rfl, hl, ha⟩ := pairs_all t2 e2
          unfold pairOf at e1
          split at e1
          · rename_i x y
            have e3 : (x, y) = p := Option.some.inj e1
            subst e3
            cases t1 with
            | @tup a xs _ z1 z2 =>
              cases z2 with
              | cons w1 w2 =>
                cases w2 with
                | cons w3 w4 =>
                  cases w1
                  cases w3
                  cases w4
                  refine ⟨a :: as, rfl, by rw [List.length_cons, List.length_cons, hl], fun i h h' => ?_⟩
                  cases i with
                  | zero => exact z1
                  | succ i => exact ha i (by simpa using h) (by simpa using h')
          · cases e1
def decP (l : List Int) : Int × Int := (l.getD 0 0, l.getD 1 0)
theorem prs_all {B : Hp} : ∀ (L : List (Addr × List Int)), (∀ q ∈ L, B q.1 = some (.tup [.int (decP q.2).1, .int (decP q.2).2])) → DtAll B (L.map fun q => V.ref q.1) ((L.map fun q => decP q.2).map prD)
  | [], _ => .nil
  | q :: L, h => .cons (Dt.tup (h q List.mem_cons_self) (.cons (.int _) (.cons (.int _) .nil))) (prs_all L fun q hq => h q (List.mem_cons_of_mem _ hq))
theorem xl_ssp (T : Txs X.mg) {n : Nat} (hr : Room n X.A) (ha : XE X C a f) (hc : X.calm = true := by rfl) (hg : Gl X "sorted" := by rfl) (hg2 : Gl X "set" := by rfl) (na : starEach (a :: []) X.env = (false, eval a X.env) :: starEach [] X.env := by rfl)
    (nb : starEach (.Call (.Name "set" p2) [a] [] q :: []) X.env = (false, eval (.Call (.Name "set" p2) [a] [] q) X.env) :: starEach [] X.env := by rfl) (hpl : (backTo pos (starEach [] X.env)).any (·.1) = false := by rfl) (hpl2 : (backTo q (starEach [] X.env)).any (·.1) = false := by rfl) :
    XL X C (.Call (.Name "sorted" p) [.Call (.Name "set" p2) [a] [] q] [] pos) (lSSP f) :=
  (pe_callB (cr_sortedT hc) hg T.sorted (by decide +kernel) (pa_cons (pe_callTy (cr_setOfT hc hr.units) hg2 T.set PyProof.Rows.boot_set (pa_cons ha pa_nil na) (he := na) (hpl := hpl2)) pa_nil nb) (he := nb) (hpl := hpl)).imp fun σ H Q ⟨ρ, B, S, h⟩ => ⟨ρ, B, S, bindP h fun d _ h v1 B1 H1 x1 t1 => by
    cases t1 with
    | @lst a xs ds h1 h2 =>
      cases e : pairsOf ds with
      | none => simp only [ssetP, e, ofO, Rs.bind_no] at h; exact h.elim
      | some ps =>
        simp only [ssetP, e, ofO, Rs.bind_ok] at h
        have h3 : pL C B H σ Q (if ps.length < 60 ∧ ps.all (fun p => decide (0 ≤ p.1 ∧ p.1 < 64 ∧ 0 ≤ p.2 ∧ p.2 < 64)) = true then .ok ((upP ps).map prD) else .no) := h
        by_cases hz : ps.length < 60 ∧ ps.all (fun p => decide (0 ≤ p.1 ∧ p.1 < 64 ∧ 0 ≤ p.2 ∧ p.2 < 64)) = true
        · rw [if_pos hz] at h3
          obtain ⟨z1, z2⟩ := hz
          obtain ⟨as, rfl, hl, hB⟩ := pairs_all h2 e
          let ks : List (Addr × List Int) := (as.zip ps).map fun z => (z.1, [z.2.1, z.2.2])
          have hks : ∀ k ∈ ks, decP k.2 ∈ ps ∧ k.2 = [(decP k.2).1, (decP k.2).2] ∧ B1 k.1 = some (.tup [.int (decP k.2).1, .int (decP k.2).2]) := by
            intro k hk
            obtain ⟨z, hz, rfl⟩ := List.mem_map.mp hk
            obtain ⟨i, hi, ez⟩ := List.getElem_of_mem hz
            rw [List.getElem_zip] at ez
            subst ez
            have h1 : i < as.length := by rw [List.length_zip] at hi; omega
            have h2 : i < ps.length := by omega
            exact ⟨List.getElem_mem h2, rfl, hB i h1 h2⟩
          have hps : ∀ p ∈ ps, ∃ k ∈ ks, k.2 = [p.1, p.2] := by
            intro p hp
            obtain ⟨i, hi, rfl⟩ := List.getElem_of_mem hp
            have h1 : i < as.length := by omega
            refine ⟨(as[i], [ps[i].1, ps[i].2]), List.mem_map.mpr ⟨(as[i], ps[i]), ?_, rfl⟩, rfl⟩
            have hzl : i < (as.zip ps).length := by rw [List.length_zip]; omega
            have : (as.zip ps)[i] = (as[i], ps[i]) := List.getElem_zip ..
            rw [← this]
            exact List.getElem_mem hzl
          have exs : as.map V.ref = ks.map fun p => V.ref p.1 := by
            show _ = ((as.zip ps).map fun z => (z.1, [z.2.1, z.2.2])).map fun p => V.ref p.1
            rw [List.map_map]
            have : ((fun p : Addr × List Int => V.ref p.1) ∘ fun z : Addr × (Int × Int) => (z.1, [z.2.1, z.2.2])) = V.ref ∘ Prod.fst := rfl
            rw [this, ← List.map_map, List.map_fst_zip (by omega)]
          have hsq : ∀ {H' : Hp}, Same B1 H' → ∀ k ∈ ks, SqT X.K H' k.1 (k.2.map V.int) := fun {H'} sm k hk => by
            obtain ⟨_, e2, e3⟩ := hks k hk
            rw [e2]
            exact SqT.of (sm _ _ e3)
          have hkl : ks.length < 64 := by
            show ((as.zip ps).map _).length < 64
            rw [List.length_map, List.length_zip]; omega
          refine ⟨a, ks, rfl, by rw [← exs]; exact SqL.of (x1.s _ _ h1), hsq x1.s, hkl, fun p L hp hL1 hL2 => ?_⟩
          have x2 := Ext.raw (o := SetTO X.prog X.w p L) x1.s hp
          refine ⟨p, L, 2, 64, rfl, upd_same, fun k hk => hsq x2.s k (hL1 k hk), by decide, fun k hk => ?_, fun L' r pm nd _ pw hr => ?_⟩
          · obtain ⟨e1, e2, _⟩ := hks k (hL1 k hk)
            have := of_decide_eq_true (List.all_eq_true.mp z2 _ e1)
            rw [e2]
            exact ⟨rfl, fun m hm => by
              rcases List.mem_cons.mp hm with q | q
              · subst q; omega
              · rcases List.mem_cons.mp q with q | q
                · subst q; omega
                · cases q⟩
          · have hL' : ∀ k ∈ L', k ∈ ks := fun k hk => hL1 k (pm.mem_iff.mp hk)
            have em : L'.map (fun q => decP q.2) = upP ps := by
              refine pw_unique ltP_asym ?_ (upP_up ps) fun x => ?_
              · rw [List.pairwise_map]
                have nd' : L'.Pairwise (fun q r => q.2 ≠ r.2) := by
                  have := List.nodup_iff_pairwise_ne.mp nd
                  rw [List.pairwise_map] at this
                  exact this
                refine List.Pairwise.imp_of_mem ?_ (nd'.and pw)
                intro q r hq hr' hh
                obtain ⟨a1, a2, _⟩ := hks q (hL' q hq)
                obtain ⟨b1, b2, _⟩ := hks r (hL' r hr')
                have c1 := of_decide_eq_true (List.all_eq_true.mp z2 _ a1)
                have c2 := of_decide_eq_true (List.all_eq_true.mp z2 _ b1)
                have hh1 := hh.1
                have hh2 := hh.2
                rw [a2, b2, code_pair, code_pair] at hh2
                have hne : ¬ ((decP q.2).1 = (decP r.2).1 ∧ (decP q.2).2 = (decP r.2).2) := fun w => hh1 (by rw [a2, b2, w.1, w.2])
                unfold ltP
                omega
              · rw [upP_mem, List.mem_map]
                constructor
                · rintro ⟨k, hk, rfl⟩
                  exact (hks k (hL' k hk)).1
                · intro hx
                  obtain ⟨k, hk, ek⟩ := hps x hx
                  obtain ⟨k2, hk2, e2⟩ := List.mem_map.mp (hL2 k hk)
                  refine ⟨k2, pm.mem_iff.mpr hk2, ?_⟩
                  rw [e2, ek]
                  rfl
            have td := prs_all (B := B1) L' fun k hk => (hks k (hL' k hk)).2.2
            rw [em] at td
            exact h3 r _ B1 _ (x1.trans (x2.trans (Ext.raw x2.s hr))) (x1.h.free (x2.h.free hr)) (x2.s.free hr) upd_same td
        · rw [if_neg hz] at h3
          exact h3.elim
    | _ => exact h.elim⟩
theorem firstMet_nd (val : Nat → Int) : ∀ i, (firstMet val i).Nodup
  | 0 => List.nodup_nil
  | i + 1 => by
    rw [firstMet_succ]
    unfold step_dedup
    split
    · exact firstMet_nd val i
    · rename_i h
      rw [List.nodup_append]
      refine ⟨firstMet_nd val i, by simp, fun a ha b hb => ?_⟩
      rw [List.mem_singleton] at hb
      intro e
      exact h (List.any_eq_true.mpr ⟨a, ha, by simp [e, hb]⟩)
theorem up_nd (ns : List Int) : (upI ns).Nodup := List.nodup_iff_pairwise_ne.mpr ((upI_up ns).imp fun h => by omega)
theorem firstMet_len (ns : List Int) : (firstMet (fun i => ns.getD i 0) ns.length).length = (upI ns).length := by
  refine ((List.perm_ext_iff_of_nodup (firstMet_nd _ _) (up_nd ns)).mpr fun k => ?_).length_eq
  rw [upI_mem]
  have e := firstMet_any (fun i => ns.getD i 0) ns.length k
  have e2 : (List.range ns.length).map (fun i => ns.getD i 0) = ns := by
    apply List.ext_getElem
    · simp
    · intro i h1 h2
      simp [List.getD_eq_getElem?_getD, List.getElem?_eq_getElem h2]
  rw [e2] at e
  constructor
  · intro h
    have h1 : (firstMet (fun i => ns.getD i 0) ns.length).any (· == k) = true := List.any_eq_true.mpr ⟨k, h, by simp⟩
    rw [e] at h1
    obtain ⟨x, hx, q⟩ := List.any_eq_true.mp h1
    have : x = k := by simpa using q
    subst this; exact hx
  · intro h
    have h1 : ns.any (· == k) = true := List.any_eq_true.mpr ⟨k, h, by simp⟩
    rw [← e] at h1
    obtain ⟨x, hx, q⟩ := List.any_eq_true.mp h1
    have : x = k := by simpa using q
    subst this; exact hx
def tLenSetM (K : PySem.W.Frag) (ta : TE) : TE := fun σ H Q => ta σ H fun x H1 => ∃ (l : Addr) (ns : List Int), x = V.ref l ∧ SqL K H1 l (ns.map V.int) ∧ ns.length < 4000 ∧ Q (.int ((upI ns).length : Nat)) H1
theorem pe_lenSetM {a : Expr} {ta : TE} (hc : X.calm = true) (hg : Gl X "len") (hm : X.mg "len" = none) (hg2 : Gl X "set") (hm2 : X.mg "set" = none) (ha : PE X a ta)
    (na : starEach [a] X.env = (false, eval a X.env) :: starEach [] X.env) (nb : starEach [.Call (.Name "set" p2) [a] [] q] X.env = (false, eval (.Call (.Name "set" p2) [a] [] q) X.env) :: starEach [] X.env) : PE X (.Call (.Name "len" p) [.Call (.Name "set" p2) [a] [] q] [] pos) (tLenSetM X.K ta) := by
  refine ⟨fun pins s σ H Q I h => ?_⟩
  refine Call_ (ld_blt I hg hm PySem.boot_len ?_)
  refine PyProof.Rows.callWith_builtin1 (PyProof.Rows.args_cons ?_ nb) nb rfl
  refine Call_ (ld_blt I hg2 hm2 PyProof.Rows.boot_set ?_)
  refine PyProof.Rows.callWith_type1 (PyProof.Rows.args_cons (thn (ha.run pins s σ H _ I h) fun v s1 ⟨x, H1, I1, r1, q1⟩ => PyProof.Rows.args_nil ?_) na) na rfl
  obtain ⟨l, ns, rfl, hq, h1, q1⟩ := q1
  cases r1
  obtain ⟨its, r, pl, hz⟩ := I1.list hq
  have hl : its.toArray.size = ns.length := by rw [List.size_toArray, ← r.length, List.length_map]
  refine call_set_list (I1.ok.hd hc) pl.isList (ns := ns) (by simpa using r.ints) (by unfold scanBound; omega) fun h' tk hS hk => ?_
  rw [hl, firstMet_len] at hS
  refine PyProof.Rows.args_nil ?_
  obtain ⟨o, es, ep, t, ho, hex, hd, _, _, _, hf, hn⟩ := hS
  have I2 : Inv X pins σ H1 { s1 with heap := h', toks := tk } := I1.kept fun b o e => hk b o (Heap.lt_size e) e
  have hle : (upI ns).length ≤ ns.length := by
    rw [← firstMet_len]
    exact firstMet_length_le _ _
  refine call_len_set ho hex hd hf (by rw [hn] <;> omega) ⟨.int ((upI ns).length : Nat), H1, I2.tok _, ⟨_, by rw [hn]⟩, q1⟩
theorem xe_lenset (T : Txs X.mg) (ha : XE X C a f) (hc : X.calm = true := by rfl) (hg : Gl X "len" := by rfl) (hg2 : Gl X "set" := by rfl) (na : starEach (a :: []) X.env = (false, eval a X.env) :: starEach [] X.env := by rfl)
    (nb : starEach (.Call (.Name "set" p2) [a] [] q :: []) X.env = (false, eval (.Call (.Name "set" p2) [a] [] q) X.env) :: starEach [] X.env := by rfl) :
    XE X C (.Call (.Name "len" p) [.Call (.Name "set" p2) [a] [] q] [] pos) (dLenSet f) :=
  (pe_lenSetM hc hg T.len hg2 T.set ha na nb).imp fun σ H Q ⟨ρ, B, S, h⟩ => ⟨ρ, B, S, bindP h fun d _ h v1 B1 H1 x1 t1 => by
    cases t1 with
    | @lst a xs ds h1 h2 =>
      cases e : intsOf ds with
      | none => simp only [lsetI, e, ofO, Rs.bind_no] at h; exact h.elim
      | some ns =>
        simp only [lsetI, e, ofO, Rs.bind_ok] at h
        have h3 : pE C B H σ Q (if ns.length < 4000 then .ok (.int (upI ns).length) else .no) := h
        by_cases hz : ns.length < 4000
        · rw [if_pos hz] at h3
          have := h2.ints e
          subst this
          exact ⟨a, ns, rfl, SqL.of (x1.s _ _ h1), hz, h3 _ B1 H1 x1 (.int _)⟩
        · rw [if_neg hz] at h3
          exact h3.elim
    | _ => exact h.elim⟩

/-! ### isinstance(x, bool) -/
theorem xe_isb (T : Txs X.mg) (ha : XB X C a fb) (hg : Gl X "isinstance" := by rfl) (hgb : Gl X "bool" := by rfl) (hmb : X.mg "bool" = none) (he : starEach (a :: [.Name "bool" p2]) X.env = (false, eval a X.env) :: starEach [.Name "bool" p2] X.env := by rfl)
    (hb : starEach (.Name "bool" p2 :: []) X.env = (false, eval (.Name "bool" p2) X.env) :: starEach [] X.env := by rfl) (hpl : (backTo pos (starEach [.Name "bool" p2] X.env)).any (·.1) = false := by rfl) :
    XE X C (.Call (.Name "isinstance" p) [a, .Name "bool" p2] [] pos) (dIsB fb) :=
  (pe_callB call_isi hg T.isinstance (by decide +kernel) (pa_cons ha (pa_cons (pe_bltn (v := .ty "bool") (u := .type "bool") hgb hmb (by decide +kernel) rfl) pa_nil hb) he) (he := he) (hpl := hpl)).imp fun σ H Q ⟨ρ, B, S, h⟩ => ⟨ρ, B, S, bindP h fun s _ h v1 B1 H1 x1 t1 => by
    have fin : ∀ {t : Value} {b : Bool}, TyX X.K H1 v1 t → PySem.W.kitOne X.K t (.type "bool") = some b → pE C B H σ Q (.ok (.bool b)) → rIsi X.K [v1, .ty "bool"] H1 Q := fun {t b} ty k hq => ⟨v1, .ty "bool", t, .type "bool", b, rfl, .ty _, ty, k, hq _ B1 H1 x1 (.bl _)⟩
    cases s with
    | fz d =>
      have t1' : Dt B1 v1 d := t1
      cases t1' with
      | bl b => exact fin (.base (.bl b)) (kit_ty (by decide +kernel)) h
      | str z => exact fin (.base (.str z)) (kit_ty (by decide +kernel)) h
      | lst h1 h2 => exact fin (.base (.lst (x1.s _ _ h1))) (kit_ty (by decide +kernel)) h
      | tup h1 h2 => exact fin (.base (.tup (x1.s _ _ h1))) (kit_ty (by decide +kernel)) h
      | non => exact h.elim
      | int _ => exact h.elim
    | nil => exact h.elim
    | ow _ => exact h.elim
    | dc _ => exact h.elim
    | ex _ => exact h.elim
    | sc _ => exact h.elim
    | bx _ => exact h.elim⟩
end
end MS

/-! MsLayI: try, a caught error that is kept, isinstance of it, list.count, list.index. -/
namespace MS
open PySem PySem.Spec L2 PyProof.Rows

/-! ### a caught error comes to the abstract heap -/
section
variable {X : Cx} {pins : List (Addr × Obj)} {σ : L2.St} {H : Hp} {s : Shared}
theorem Inv_keepX {a C : Addr} {oe : Obj} {vs : Array Value} (I : Inv X pins σ H s) (he : s.heap.get? a = some oe) (hc : oe.cls = .ref C) (hdn : oe.dict = none) (hd : oe.data = .fields vs) (na : H a = none) (nL : a ≠ X.env.locals)
    (n0 : ∀ o, X.s_0.heap.get? a = some o → a ∈ X.ex) (np : ∀ p ∈ X.pn ++ pins, p.1 ≠ a) : Inv X pins σ (upd H a (exO a C)) s := by
  have nu : ∀ {b : Addr} {o : HO}, H b = some o → upd H a (exO a C) b = some o := fun {b o} e => by
    rw [upd_ne (ne_of_none e na)]; exact e
  refine ⟨I.ok, I.os, I.bare, ⟨I.base.keep, I.base.slot, fun b o e h0 hx => ?_, I.base.there, fun b xs e => nu (I.base.tups b xs e), fun b o u e => nu (I.base.frzs b o u e), fun b ps e => ?_⟩, I.loc, I.cell, ?_, fun x c e => ?_, fun p hp => ?_, fun b o e => ?_, I.len⟩
  · have : b ≠ a := fun z => by subst z; exact hx (n0 o e)
    rw [upd_ne this]
    exact I.base.free b o e h0 hx
  · obtain ⟨more, q⟩ := I.base.tbls b ps e
    exact ⟨more, nu q⟩
  · rw [upd_ne (Ne.symm nL)]; exact I.free
  · have : c ≠ a := fun z => by
      subst z
      obtain ⟨v, o, ho, hv⟩ := I.cell x c e
      rw [he] at ho; cases ho
      rw [hd] at hv; cases hv
    rw [upd_ne this]; exact I.freeC x c e
  · obtain ⟨e, n, ne, nf, d⟩ := I.pin p hp
    exact ⟨e, by rw [upd_ne (np p hp)]; exact n, ne, nf, d⟩
  · by_cases q : b = a
    · subst q
      rw [upd_same] at e
      have e' : exO b C = o := Option.some.inj e
      subst e'
      exact ⟨⟨oe, vs, he, hc, hdn, hd⟩, ⟨oe, he⟩, fun h1 h2 ⟨o1, v1, z1, z2⟩ k => ⟨o1, v1, k _ z1, z2⟩⟩
    · rw [upd_ne q] at e
      exact (I.hok b o e).stay (fun _ _ _ z => z) (fun _ z => nu z) fun _ _ z => nu z
end
/-- what the clause 'except x as n' wishes, where the error outlives it -/
def wKeep (K : PySem.W.Frag) (c : Value) (i : Nat) (ts : Addr → Value → Option Addr → TS) (Wout : WX) (D : Ends) : WX := fun cls d σ H =>
  ∃ b, PySem.W.exmOne K cls c = some b ∧ (b = true → d = none ∧ ∃ C, cls = .ref C ∧ ∀ a, H a = none → ts a cls d { nx := fun σ' H' => H' a = none → D.nx (σ'.set i none) (upd H' a (exO a C)), rt := fun _ _ => False, bk := fun _ _ => False, ct := fun _ _ => False } (σ.set i (some (.ref a))) H) ∧
    (b = false → Wout cls d σ H)
section
variable {X : Cx} {x n : Str} {c : Value} {i : Nat} {body suite : List Stmt} {b₀ : Stmt} {np pos pos' : Pos} {tb : WX → TS} {ts : Addr → Value → Option Addr → TS} {Wout : WX}
theorem sky_none {B : Heap} {l : List PySem.Env} {a : Addr} {Z : Obj → Prop} {L : Addr} {h : Heap} (k : Sky B l a Z L h) : B.get? a = none := by
  rcases k with k | k | k
  · exact k.2.1
  · exact k.2.1
  · exact k.2.1
theorem ps_try_keep (hs : X.stack = X.env :: X.outer) (hf : X.env.frame = some X.env.locals) (hN : X.N.Nodup) (hi : X.N[i]? = some n) (hln : X.env.kindOf n = some .local) (hc : Names X x c) (tk : Takes X Wout)
    (hb : ∀ (W : WX) (pn : List (Addr × Obj)) (xe : Value → Shared → Prop), Takes (X.tr pn xe) W → PassesOwn (model X.prog X.w) X.A X.env xe → PSs (X.tr pn xe) body (tb W))
    (hsu : ∀ (a : Addr) (oe : Obj) (cls : Value) (d : Option Addr) (pn : List (Addr × Obj)), Zc cls d oe → (∃ vs, oe.data = .fields vs) → PSs (X.suite a ((a, oe) :: pn)) (b₀ :: suite) (ts a cls d)) :
    PS X (.Try body [.ExceptHandler (some (.Name x np)) (some n) (b₀ :: suite) pos'] [] [] pos) (fun D σ H => tb (wKeep X.K c i ts Wout D) D σ H) := by
  refine ⟨fun pins s σ H D I h => ?_⟩
  have ok := I.ok
  have hfr : X.A.frames = some (X.env :: X.outer) := by rw [ok.frames, hs]
  have hloc : Loc X.env.scope n := .inl hln
  refine wpAny_Try_except ?_
  refine wpAny_mono ((hb (wKeep X.K c i ts Wout D) (X.pn ++ pins) (fun e s₁ => wpAny (model X.prog X.w) X.A (noteFrame e X.env) (fun _ s₂ => wpAny (model X.prog X.w) X.A (setFlight e none) (fun _ s₃ =>
    wpAny (model X.prog X.w) X.A (handleBy e X.env [.ExceptHandler (some (.Name x np)) (some n) (b₀ :: suite) pos']) (SP X pins D) X.xe s₃) X.xe s₂) X.xe s₁) (fun u s' xx => ?_) PassesOwn.looking).run [] s σ H D (I.toTry _) h) (fun f s1 hsp => ?_) (fun e s1 he => he)
  · -- the catch
    obtain ⟨a, B, sI, pins', σ', H', cls, d, rfl, J', nb, up, sky, na, os, ag, b, hb1, hyes, hno⟩ := xx
    have nBa : B.get? a = none := sky_none sky
    have J : Inv X pins σ' H' sI := J'.ofTry ok
    have sky' : Sky B (X.env :: X.outer) a (Zc cls d) X.env.locals s'.heap := by rw [← hs]; exact sky
    show wpAny (model X.prog X.w) X.A (noteFrame (.ref a) X.env) _ _ _
    refine Sky.land Zc.steady hfr hf sky' fun h3 fl3 up3 => ?_
    have J3 : Inv X pins σ' H' { s' with heap := h3 } := J.landed nb fl3.1 (up.trans up3) os ag
    obtain ⟨oe3, vs3, he3, hz3, hd3⟩ := fl3.there
    have notFr : ∀ {h : Heap} {o : Obj} {vs : Array Value}, h.FunFrames B (X.env :: X.outer) → h.get? a = some o → o.data = .fields vs → a ∉ frs (X.env :: X.outer) := fun {h o vs} ff e dd hm => by
      obtain ⟨_, o', e', hnf⟩ := ff.mem hm
      rw [e] at e'; cases e'
      exact hnf _ dd
    have nfr := notFr fl3.2.2.1 he3 hd3
    have nL : a ≠ X.env.locals := fun z => nfr (List.mem_filterMap.mpr ⟨X.env, List.mem_cons_self, by rw [hf, z]⟩)
    have nF : a ∉ X.fs := fun hm => by
      obtain ⟨e, he, q⟩ := List.mem_filterMap.mp hm
      exact nfr (List.mem_filterMap.mpr ⟨e, List.mem_cons_of_mem _ he, q⟩)
    have S3 := J3.suite he3 hd3 na nL nF
    refine wpAny_handleBy_cons (codeAny_handlers_test ?_) (by intro q; cases q)
    have LT : PySem.W.Looks (model X.prog X.w) h3 (typeOf (.ref a)) cls := fun A Q E s k q => wpAny_typeOf_ref (k _ _ he3) (by rw [hz3.1]; exact q)
    have LM := PySem.W.exm_one (M := model X.prog X.w) (J3.kIn) LT hb1
    have test : ∀ {Q : Value → Shared → Prop} {E : Value → Shared → Prop}, Q c { s' with heap := h3 } → wpAny (model X.prog X.w) (X.A.mark (some (.ref a))) (eval (.Name x np) X.env) Q E { s' with heap := h3 } := fun {Q E} q => by
      obtain ⟨hg, hdbg, hm | ⟨hm, hv, hnn⟩⟩ := hc
      · exact ld_glob (X := X.suite a ((a, oe3) :: (X.pn ++ pins))) S3 hg hm q hdbg
      · exact ld_blt (X := X.suite a ((a, oe3) :: (X.pn ++ pins))) S3 hg hm hv q hnn hdbg
    refine test (LM.here ?_)
    cases b with
    | true =>
      refine codeAny_handlers_suite_as ?_
      refine HandSPX.lands_againZ fl3 fun h4 fl4 up4 => ?_
      have J4 : Inv X pins σ' H' { s' with heap := h4 } := J.landed nb fl4.1 ((up.trans up3).trans up4) os ag
      obtain ⟨oe4, vs4, he4, hz4, hd4⟩ := fl4.there
      have S4 := J4.suite he4 hd4 na nL nF
      refine store_ok (X := X.suite a ((a, oe4) :: (X.pn ++ pins))) (v := .ref a) S4 hN hi hloc rfl (fun s5 S5 => ?_) (.inr hln)
      obtain ⟨rfl, C, rfl, hyes⟩ := hyes rfl
      refine wpAny_mono ((hsu a oe4 (.ref C) none (X.pn ++ pins) hz4 ⟨_, hd4⟩).run [] s5 _ H' _ S5 (hyes a na)) (fun f s6 hsp => ?_) (fun _ _ z => False.elim z)
      have n0 : ∀ o, X.s_0.heap.get? a = some o → a ∈ X.ex := fun o e => by
        refine Classical.byContradiction fun hx => ?_
        obtain ⟨o', e'⟩ := J.base.there a o e hx
        have hns : a ∉ frs X.stack := by rw [hs]; exact nfr
        have z := nb a o' e' hns
        rw [nBa] at z; cases z
      have npn : ∀ p ∈ X.pn ++ pins, p.1 ≠ a := fun p hp z => by
        obtain ⟨e, _, _, _, _⟩ := J.pin p hp
        have hns : p.1 ∉ frs X.stack := by rw [hs, z]; exact nfr
        have w := nb p.1 p.2 e hns
        rw [z, nBa] at w; cases w
      cases f with
      | next =>
        obtain ⟨σ6, H6, S6, q6⟩ := hsp
        obtain ⟨e6, na6, _⟩ := S6.pin (a, oe4) (List.mem_append_left _ List.mem_cons_self)
        have U6 : Inv X pins σ6 H6 s6 := S6.unsuite ok
        obtain ⟨z1, z2⟩ := hz4
        have V6 := Inv_keepX (C := C) U6 e6 z1 z2 hd4 na6 nL n0 npn
        exact gone_ok V6 hN hi hln fun s7 J7 => ⟨_, _, J7, q6 na6⟩
      | brk =>
        obtain ⟨σ6, H6, S6, q6⟩ := hsp
        exact q6.elim
      | cont =>
        obtain ⟨σ6, H6, S6, q6⟩ := hsp
        exact q6.elim
      | ret u =>
        obtain ⟨v6, σ6, H6, S6, r6, q6⟩ := hsp
        exact q6.elim
    | false =>
      show wpAny _ X.A (handleBy (.ref a) X.env []) _ _ _
      refine wpAny_handleBy_nil ?_
      obtain ⟨k1, k2, k3, oe, vs, T, oT, ts', he, hz, hd, h1, hr⟩ := id fl3
      unfold PySem.passOn
      refine wpAny_bind (wpAny_field he hd h1 ?_)
      rw [if_neg (show ¬ ((Value.ref T == Value.none) = true) from by simp)]
      have fin : wpAny (model X.prog X.w) X.A (setFlight (.ref a) X.env.frame) (fun _ s4 => wpAny (model X.prog X.w) X.A (throw (.ref a) : Sem Flow) (SP X pins D) X.xe s4) X.xe { s' with heap := h3 } := by
        rw [hf]
        refine HandSPX.setFlight_upZ fl3 fun h4 hh4 up4 => wpAny_throw (tk _ _ ?_)
        exact ⟨a, B, sI, pins, σ', H', cls, d, rfl, J, nb, (up.trans up3).trans up4, .inr (.inr (by rw [hs]; exact hh4)), na, os, ag, hno rfl⟩
      first
        | exact wpAny_bind (wpAny_pure (wpAny_bind fin))
        | exact wpAny_bind fin
  · cases f with
    | next =>
      obtain ⟨σ', H', J', q⟩ := hsp
      exact wpAny_execs_nil ⟨σ', H', J'.ofTry ok, q⟩
    | brk =>
      obtain ⟨σ', H', J', q⟩ := hsp
      exact ⟨σ', H', J'.ofTry ok, q⟩
    | cont =>
      obtain ⟨σ', H', J', q⟩ := hsp
      exact ⟨σ', H', J'.ofTry ok, q⟩
    | ret u =>
      obtain ⟨v, σ', H', J', r, q⟩ := hsp
      exact ⟨v, σ', H', J'.ofTry ok, r, q⟩
end

/-! ### try: .. except C as n: m = n -/
theorem Stt.reW {K : PySem.W.Frag} {C : Cc} {W : WX} {B H : Hp} {σ : L2.St} {ρ : Env} (S : Stt K { C with W := W } B H σ ρ) : Stt K C B H σ ρ := ⟨S.x, ⟨S.r.len, S.r.at', S.r.sep⟩⟩
theorem Stt.toW {K : PySem.W.Frag} {C : Cc} {W : WX} {B H : Hp} {σ : L2.St} {ρ : Env} (S : Stt K C B H σ ρ) : Stt K { C with W := W } B H σ ρ := ⟨S.x, ⟨S.r.len, S.r.at', S.r.sep⟩⟩
section
variable {X : Cx} {C : Cc} {x n m : Str} {i j : Nat} {body : List Stmt} {np p1 p2 p3 pos pos' : Pos} {g : DS} {ks : XK → Bool} {c : Value}
theorem xs_try (i j : Nat) (ks : XK → Bool) (hN : X.N.Nodup) (hc : Names X x c) (hk : ∀ k, PySem.W.exmOne X.K (.ref (C.ec k)) c = some (ks k))
    (hb : ∀ (W : WX) (pn : List (Addr × Obj)) (xe : Value → Shared → Prop), Takes (X.tr pn xe) W → PassesOwn (model X.prog X.w) X.A X.env xe → XSs (X.tr pn xe) { C with W := W } body g)
    (tk : Takes X C.W := by assumption) (hi : X.N[i]? = some n := by rfl) (hj : X.N[j]? = some m := by rfl) (hs : X.stack = X.env :: X.outer := by rfl) (hf : X.env.frame = some X.env.locals := by rfl) (hln : X.env.kindOf n = some .local := by rfl)
    (hij : i ≠ j := by decide) (hv : Vis X.env.scope n := by first | exact Or.inl rfl | exact Or.inr (Or.inl rfl) | exact Or.inr (Or.inr rfl)) (hd : (n == ("__debug__" : Str)) = false := by decide) (hcd : (n == ("__classdict__" : Str)) = false := by decide)
    (hm : Loc X.env.scope m := by first | exact Or.inl rfl | exact Or.inr rfl) (hsw : swapsWith (.Name n p2) (some (.Name m p1)) p3.line X.env = pure false := by rfl) (hfm : X.fn m = true ∨ X.env.scope.names.lookup m = some .local := by first | exact .inl rfl | exact .inr rfl | assumption) :
    XS X C (.Try body [.ExceptHandler (some (.Name x np)) (some n) [.Assign [.Name m p1] (.Name n p2) p3] pos'] [] [] pos) (sTry g ks i j) :=
  (ps_try_keep (b₀ := .Assign [.Name m p1] (.Name n p2) p3) (suite := []) (ts := fun _ _ _ => tAsg (tVar i) (gName j)) (tb := fun W => tS X.K { C with W := W } g) hs hf hN hi hln hc tk hb fun a oe cls d pn hz hv' =>
    pss_one (ps_set (X := X.suite a ((a, oe) :: pn)) hN hj hm (pe_var hi hv hd hcd) hsw hfm)).imp fun D σ H ⟨ρ, B, S, h⟩ => ⟨ρ, B, S.toW, by
      unfold sTry at h
      cases eg : g ρ with
      | nx ρ' => rw [eg] at h; exact fun σ' B' H' s S' => h σ' B' H' s S'.reW
      | rt d => rw [eg] at h; exact h
      | bk ρ' => rw [eg] at h; exact fun σ' B' H' s S' => h σ' B' H' s S'.reW
      | ct ρ' => rw [eg] at h; exact fun σ' B' H' s S' => h σ' B' H' s S'.reW
      | no => rw [eg] at h; exact h
      | er k ρ' =>
        rw [eg] at h
        simp only at h
        refine fun σ' B' H' s S' => ⟨ks k, hk k, fun hy => ⟨rfl, C.ec k, rfl, fun a na => ?_⟩, fun hn => ?_⟩
        · rw [if_pos hy] at h
          by_cases hl : i < ρ'.length
          case neg => rw [if_neg hl] at h; exact h.elim
          rw [if_pos hl] at h
          have hli : i < σ'.length := by rw [S'.r.len]; exact hl
          refine ⟨.ref a, List.getElem?_set_self hli, fun na2 => ?_⟩
          have e1 : (((σ'.set i (some (V.ref a))).set j (some (V.ref a))).set i none) = (σ'.set i none).set j (some (V.ref a)) := by
            rw [List.set_comm _ _ (Ne.symm hij), List.set_set]
          rw [e1]
          have x1 : Ext B' H' (upd B' a (exO a (C.ec k))) (upd H' a (exO a (C.ec k))) := Ext.new S'.reW.sm na
          have S2 := ((S'.reW.on x1).unset i).setA (v := .ref a) j (s := .ex k) ⟨a, rfl, upd_same⟩ rfl
          exact h _ _ _ (s.trans x1.b) S2
        · rw [if_neg (by rw [hn]; exact Bool.false_ne_true)] at h
          exact h σ' B' H' s S'.reW⟩
end

/-! ### isinstance of a kept error -/
def rIsX (K : PySem.W.Frag) (D : Addr) : List V → Hp → VK → Prop := fun xs H Q => ∃ (a : Addr) (c : V) (cv : Value) (b : Bool), xs = [.ref a, c] ∧ H a = some (exO a D) ∧ ClsV c cv ∧ PySem.W.kitOne K (.ref D) cv = some b ∧ Q (.bl b) H
theorem call_isX {X : Cx} : CallR X (.builtin "isinstance") (fun xs H Q => ∃ D, ExcC X.K D ∧ rIsX X.K D xs H Q) := by
  intro pins s σ H xs us Q I r h
  obtain ⟨D, C, a, c, cv, b, rfl, ha, hcv, e, q⟩ := h
  obtain ⟨u1, u2, rfl, r1, r2⟩ := vals2 r
  cases (show u1 = Value.ref a from r1)
  have ec := hcv.eq r2
  subst ec
  obtain ⟨⟨oe, vs, hget, h1, h2, h3⟩, _⟩ := I.hok a _ ha
  have J : PySem.W.InstAt s.heap a oe D none := by
    obtain ⟨oc, od, oda, osl⟩ := oe
    dsimp only at h1 h2 h3
    subst h1 h2 h3
    exact ⟨hget, rfl, rfl, trivial⟩
  exact PySem.W.kia_one (PySem.W.handS_kitx_exc C.hg C.hk C.hs C.hd C.ha C.hn C.ht C.hm) I.kIn J e (fun z => nomatch z) fun tk => ⟨.bl b, H, I.kept (t' := tk) fun _ _ z => z, rfl, q⟩
section
variable {X : Cx} {C : Cc} {x : Str} {a e o : Expr} {fb : DB} {f g : DE} {p p2 pos : Pos}
/-- what is known of the errors' classes -/
structure KXc (K : PySem.W.Frag) (ec : XK → Addr) : Prop where
  c : ∀ k, ExcC K (ec k)
  own : ∀ k k', PySem.W.kitOne K (.ref (ec k')) (.ref (ec k)) = some (decide (k' = k))
  val : ∀ k, PySem.W.kitOne K (.ref (ec k)) (.type "ValueError") = some true
theorem xe_isk (T : Txs X.mg) (Z : KXc X.K C.ec) (k : XK) (hx : X.mg x = some (.ref (C.ec k))) (ha : XB X C a fb) (hg : Gl X "isinstance" := by rfl) (hgx : Gl X x := by rfl) (hdx : (x == ("__debug__" : Str)) = false := by decide) (he : starEach (a :: [.Name x p2]) X.env = (false, eval a X.env) :: starEach [.Name x p2] X.env := by rfl)
    (hb : starEach (.Name x p2 :: []) X.env = (false, eval (.Name x p2) X.env) :: starEach [] X.env := by rfl) (hpl : (backTo pos (starEach [.Name x p2] X.env)).any (·.1) = false := by rfl) :
    XE X C (.Call (.Name "isinstance" p) [a, .Name x p2] [] pos) (dIsK k fb) :=
  (pe_callB call_isX hg T.isinstance (by decide +kernel) (pa_cons ha (pa_cons (pe_glob (v := .ref (C.ec k)) hgx hx rfl hdx) pa_nil hb) he) (he := he) (hpl := hpl)).imp fun σ H Q ⟨ρ, B, S, h⟩ => ⟨ρ, B, S, bindP h fun s _ h v1 B1 H1 x1 t1 => by
    cases s with
    | ex k' =>
      obtain ⟨a, rfl, t1⟩ := t1
      exact ⟨C.ec k', Z.c k', a, _, _, _, rfl, x1.s _ _ t1, .own _, Z.own k k', h _ B1 H1 x1 (.bl _)⟩
    | _ => exact h.elim⟩
theorem xe_isv (T : Txs X.mg) (Z : KXc X.K C.ec) (hx : X.mg "ValueError" = none) (ha : XB X C a fb) (hg : Gl X "isinstance" := by rfl) (hgx : Gl X "ValueError" := by rfl) (he : starEach (a :: [.Name "ValueError" p2]) X.env = (false, eval a X.env) :: starEach [.Name "ValueError" p2] X.env := by rfl)
    (hb : starEach (.Name "ValueError" p2 :: []) X.env = (false, eval (.Name "ValueError" p2) X.env) :: starEach [] X.env := by rfl) (hpl : (backTo pos (starEach [.Name "ValueError" p2] X.env)).any (·.1) = false := by rfl) :
    XE X C (.Call (.Name "isinstance" p) [a, .Name "ValueError" p2] [] pos) (dIsV fb) :=
  (pe_callB call_isX hg T.isinstance (by decide +kernel) (pa_cons ha (pa_cons (pe_bltn (v := .ty "ValueError") (u := .type "ValueError") hgx hx (by decide +kernel) rfl) pa_nil hb) he) (he := he) (hpl := hpl)).imp fun σ H Q ⟨ρ, B, S, h⟩ => ⟨ρ, B, S, bindP h fun s _ h v1 B1 H1 x1 t1 => by
    cases s with
    | ex k' =>
      obtain ⟨a, rfl, t1⟩ := t1
      exact ⟨C.ec k', Z.c k', a, _, _, _, rfl, x1.s _ _ t1, .ty _, Z.val k', h _ B1 H1 x1 (.bl _)⟩
    | _ => exact h.elim⟩

/-! ### l.count(x), l.index(x) -/
def rCountD (K : PySem.W.Frag) : V → List V → Hp → VK → Prop := fun x xs H Q => ∃ (a : Addr) (y : V) (d : PyData) (ds : List PyData), x = V.ref a ∧ xs = [y] ∧ Dp K H (V.ref a) (.list ds) ∧ Dp K H y d ∧
  SeqAt.shaped (.list ds) = true ∧ SeqAt.shaped d = true ∧ Q (.int (ds.countP fun z => PyData.eqv z d)) H
theorem mt_countD (hu : X.A.units + 65 < cLine) : MtR X "list.count" (rCountD X.K) := by
  intro pins s σ H x xs v us Q I rx rxs h
  obtain ⟨a, y, d, ds, rfl, rfl, hl, hy, sl, sd, q⟩ := h
  cases rx
  cases rxs with
  | cons ry rt =>
    rename_i uy ut
    cases rt
    obtain ⟨bs, r1⟩ := Dp.reads I d y uy hy ry
    have hxs : PyData.canLayAll0 ds = true := SeqAt.canLay_of_shaped sl
    have hroom : X.A.units + 1 + min (PyData.depthAll ds) d.depth < cLine := room_in_shaped sd hu
    cases hl with
    | lst hs ha =>
      obtain ⟨its, rv, ⟨⟨cls, dd, data, sls⟩, n, ho, hc, hdn, hdt⟩, hlen⟩ := I.list hs
      simp only at hc hdt
      subst hc hdt
      obtain ⟨as, h4⟩ := Dp.readsAll I ds _ its ha rv
      have hmap : its.map (SeqAt.readOf s.heap) = ds := SeqAt.readsAll_map ds its as hxs h4
      refine call_meets PySem.F.slot_list_count ⟨_, ho, rfl⟩ PySem.F.entry_list_count (PySem.F.args_list_count_2 _ _)
        (SeqAt.list_countAt a its.toArray n dd sls uy (fun u => PyData.eqv (SeqAt.readOf s.heap u) d)) ⟨ho, SeqAt.items_eqAt (vs := its.toArray) (show ReadsAll s.heap its.toArray.toList ds as from h4) r1 hxs (SeqAt.canLay_of_shaped sd) hroom, ?_⟩
      have ec : its.toArray.toList.countP (fun u => PyData.eqv (SeqAt.readOf s.heap u) d) = ds.countP fun z => PyData.eqv z d := by
        rw [← hmap, List.countP_map]
        rfl
      exact ⟨.int (ds.countP fun z => PyData.eqv z d), H, I.tok _, ⟨s.toks, by rw [ec]⟩, q⟩
variable {apos cpos : Pos}
theorem xe_cnt {k : Nat} (hr : Room k X.A) (ho : XE X C o f) (ha : XE X C e g) (hb : attributeBase o "count" X.env (eval o X.env) = eval o X.env := by rfl)
    (hfew : ((backTo cpos (starEach (e :: []) X.env)).all (fun x => !x.1) && (backToKw cpos (keywordEach [] X.env)).all (fun x => x.1.isSome) && decide ((e :: []).length + ([] : List Keyword).length + (if ([] : List Keyword).isEmpty then 0 else 1) < 30)) = true := by rfl)
    (hline : (apos.endLine == cpos.line) = true := by rfl) (hst : starEach (e :: []) X.env = (false, eval e X.env) :: starEach [] X.env := by rfl) :
    XE X C (.Call (.Attribute o "count" apos) [e] [] cpos) (dCnt f g) := by
  have hu65 : X.A.units + 65 < cLine := by have := hr.un; omega
  exact (pe_bm PySem.F.plainAttrs_list PySem.F.slot_list_count PySem.F.type_list_count (mt_countD hu65) ho (pa_cons ha pa_nil hst) hb hfew hline hst rfl).imp fun σ H Q ⟨ρ, B, S, h⟩ => ⟨ρ, B, S, bindP h fun l _ h v1 B1 H1 x1 t1 => by
    cases t1 with
    | @lst a xs ds h1 h2 =>
      refine ⟨.inl ⟨rfl, xs, SqL.of (x1.s _ _ h1)⟩, ρ, B1, S.on x1, bindP (pE.on (Q := Q) h x1) fun d _ h w B2 H2 x2 t2 => ?_⟩
      have h3 : pE C B1 H1 σ Q (if SeqAt.shaped d = true ∧ SeqAt.shaped (.list ds) = true then .ok (.int (ds.countP fun z => PyData.eqv z d)) else .no) := h
      by_cases z : SeqAt.shaped d = true ∧ SeqAt.shaped (.list ds) = true
      · rw [if_pos z] at h3
        exact ⟨a, w, d, ds, rfl, rfl, Dt.dp _ (((Dt.lst h1 h2).on x2.b).on x2.s), Dt.dp _ (t2.on x2.s), z.2, z.1, h3 _ B2 H2 x2 (.int _)⟩
      · rw [if_neg z] at h3; exact h3.elim
    | _ => exact h.elim⟩
theorem xe_idx {k : Nat} (hr : Room k X.A) (ho : XE X C o f) (ha : XE X C e g) (hb : attributeBase o "index" X.env (eval o X.env) = eval o X.env := by rfl)
    (hfew : ((backTo cpos (starEach (e :: []) X.env)).all (fun x => !x.1) && (backToKw cpos (keywordEach [] X.env)).all (fun x => x.1.isSome) && decide ((e :: []).length + ([] : List Keyword).length + (if ([] : List Keyword).isEmpty then 0 else 1) < 30)) = true := by rfl)
    (hline : (apos.endLine == cpos.line) = true := by rfl) (hst : starEach (e :: []) X.env = (false, eval e X.env) :: starEach [] X.env := by rfl) :
    XE X C (.Call (.Attribute o "index" apos) [e] [] cpos) (dIdx f g) := by
  have hu65 : X.A.units + 65 < cLine := by have := hr.un; omega
  exact (pe_bm PySem.F.plainAttrs_list PySem.F.slot_list_index PySem.F.type_list_index (mt_indexD hu65) ho (pa_cons ha pa_nil hst) hb hfew hline hst rfl).imp fun σ H Q ⟨ρ, B, S, h⟩ => ⟨ρ, B, S, bindP h fun l _ h v1 B1 H1 x1 t1 => by
    cases t1 with
    | @lst a xs ds h1 h2 =>
      refine ⟨.inl ⟨rfl, xs, SqL.of (x1.s _ _ h1)⟩, ρ, B1, S.on x1, bindP (pE.on (Q := Q) h x1) fun d _ h w B2 H2 x2 t2 => ?_⟩
      have h3 : pE C B1 H1 σ Q (if SeqAt.shaped d = true ∧ SeqAt.shaped (.list ds) = true then (ofO (ds.findIdx? fun z => PyData.eqv z d)).bind fun i => .ok (.int i) else .no) := h
      by_cases z : SeqAt.shaped d = true ∧ SeqAt.shaped (.list ds) = true
      · rw [if_pos z] at h3
        cases ei : ds.findIdx? fun z => PyData.eqv z d with
        | none => rw [ei] at h3; exact h3.elim
        | some j =>
          rw [ei] at h3
          obtain ⟨hj, q1, q2⟩ := List.findIdx?_eq_some_iff_getElem.mp ei
          refine ⟨a, w, d, ds, j, ds[j], rfl, rfl, Dt.dp _ (((Dt.lst h1 h2).on x2.b).on x2.s), Dt.dp _ (t2.on x2.s), z.2, z.1, List.getElem?_eq_getElem hj, q1, fun m z' hm hz => ?_, h3 _ B2 H2 x2 (.int _)⟩
          obtain ⟨hm', e'⟩ := List.getElem?_eq_some_iff.mp hz
          subst e'
          exact Bool.eq_false_iff.mpr (q2 m hm)
      · rw [if_neg z] at h3; exact h3.elim
    | _ => exact h.elim⟩
end
end MS

/-! MsLayJ: a list of lists of one's own (near). -/
namespace MS
open PySem L2 PyProof.Rows

theorem upd_no {H : Hp} {a b : Addr} {o u : HO} (e : H b = some u) (n : H a = none) : b ≠ a := fun z => by subst z; rw [n] at e; cases e
structure Nest (C : Cc) (B H : Hp) (a : Addr) (as : List Addr) (dss : List (List PyData)) : Prop where
  out : H a = some (.lst (as.map V.ref))
  ob : B a = none
  og : C.G a = none
  nd : as.Nodup
  na : a ∉ as
  len : as.length = dss.length
  inn : ∀ (i : Nat) (b : Addr) (ds : List PyData), as[i]? = some b → dss[i]? = some ds → ∃ xs, H b = some (.lst xs) ∧ B b = none ∧ C.G b = none ∧ DtAll B xs ds
section
variable {K : PySem.W.Frag} {C : Cc} {B H B' H' : Hp} {σ : L2.St} {ρ : Env} {a : Addr} {as : List Addr} {dss : List (List PyData)}
theorem Nest.on (N : Nest C B H a as dss) (x : Ext B H B' H') : Nest C B' H' a as dss :=
  ⟨x.h _ _ N.out, none_ext x N.out N.ob, N.og, N.nd, N.na, N.len, fun i b ds e1 e2 => by
    obtain ⟨xs, h1, h2, h3, h4⟩ := N.inn i b ds e1 e2
    exact ⟨xs, x.h _ _ h1, none_ext x h1 h2, h3, h4.on x.b⟩⟩
theorem nd_get {as : List Addr} (h : as.Nodup) {i j : Nat} {b : Addr} (e1 : as[i]? = some b) (e2 : as[j]? = some b) : i = j := by
  obtain ⟨l1, q1⟩ := List.getElem?_eq_some_iff.mp e1
  obtain ⟨l2, q2⟩ := List.getElem?_eq_some_iff.mp e2
  have p := List.pairwise_iff_getElem.mp (List.nodup_iff_pairwise_ne.mp h)
  rcases Nat.lt_trichotomy i j with q | q | q
  · exact absurd (q1.trans q2.symm) (p i j l1 l2 q)
  · exact q
  · exact absurd (q2.trans q1.symm) (p j i l2 l1 q)
theorem Nest.add (N : Nest C B H a as dss) {i : Nat} {b : Addr} {xs : List V} {ds : List PyData} {y : V} {d : PyData} (e1 : as[i]? = some b) (e2 : dss[i]? = some ds) (h : H b = some (.lst xs)) (t : Dt B y d) :
    Nest C B (upd H b (.lst (xs ++ [y]))) a as (dss.set i (ds ++ [d])) := by
  have hb : b ∈ as := List.mem_of_getElem? e1
  have hab : a ≠ b := fun z => N.na (z ▸ hb)
  refine ⟨by rw [upd_ne hab]; exact N.out, N.ob, N.og, N.nd, N.na, by rw [List.length_set]; exact N.len, fun j c es f1 f2 => ?_⟩
  by_cases q : i = j
  · subst q
    rw [e1] at f1
    have f1' : b = c := Option.some.inj f1
    subst f1'
    have hl : i < dss.length := (List.getElem?_eq_some_iff.mp e2).1
    rw [List.getElem?_set_self hl] at f2
    have f2' : ds ++ [d] = es := Option.some.inj f2
    subst f2'
    obtain ⟨xs', h1, h2, h3, h4⟩ := N.inn i b ds e1 e2
    rw [h] at h1
    cases h1
    exact ⟨_, upd_same, h2, h3, h4.app (.one t)⟩
  · rw [List.getElem?_set_ne q] at f2
    have hcb : c ≠ b := fun z => q (nd_get N.nd e1 (z ▸ f1))
    obtain ⟨xs', h1, h2, h3, h4⟩ := N.inn j c es f1 f2
    exact ⟨xs', by rw [upd_ne hcb]; exact h1, h2, h3, h4⟩
/-- a slot's knowledge is dropped -/
theorem Stt.sub {ρ' : Env} (S : Stt K C B H σ ρ') (hl : ρ.length = ρ'.length) (h : ∀ (i : Nat) (s : Sl), ρ[i]? = some s → s ≠ .nil → ρ'[i]? = some s) : Stt K C B H σ ρ :=
  ⟨S.x, ⟨by rw [hl]; exact S.r.len, fun i s e n => S.r.at' i s (h i s e n) n, fun i j s t v hij e1 e2 o1 o2 f1 f2 => S.r.sep i j s t v hij (h i s e1 (by rintro rfl; cases o1)) (h j t e2 (by rintro rfl; cases o2)) o1 o2 f1 f2⟩⟩
/-- nothing of one's own in the slots -/
def NoOwn (ρ : Env) : Prop := ∀ (i : Nat) (s : Sl), ρ[i]? = some s → s.own = false
theorem SlV.noB {v : V} {s : Sl} {B' : Hp} (h : SlV K C B H v s) (no : s.own = false) (sb : Same B B') : SlV K C B' H' v s := by
  cases s with
  | ow ds => cases no
  | dc kvs => cases no
  | nil => exact h
  | fz d => exact Dt.on h sb
  | ex k => exact SlA.on (K := K) (ec := C.ec) (s := .ex k) h sb
  | sc ns => exact SlA.on (K := K) (ec := C.ec) (s := .sc ns) h sb
  | bx a => exact h
theorem Stt.move (S : Stt K C B H σ ρ) (no : NoOwn ρ) (sb : Same B B') (x : Ext C.B0 C.G B' H') : Stt K C B' H' σ ρ :=
  ⟨x, ⟨S.r.len, fun i s e n => let ⟨v, h1, h2⟩ := S.r.at' i s e n; ⟨v, h1, h2.noB (no i s e) sb⟩, S.r.sep⟩⟩
theorem Ext.mutN {B0 G : Hp} {b : Addr} {o : HO} (x : Ext B0 G B H) (nb : B b = none) (ng : G b = none) : Ext B0 G B (upd H b o) :=
  ⟨x.b, fun c u e => by rw [upd_ne (upd_no (o := o) e ng)]; exact x.h _ _ e, fun c u e => by rw [upd_ne (upd_no (o := o) e nb)]; exact x.s _ _ e, x.n⟩
theorem Stt.mutN {b : Addr} {o : HO} (S : Stt K C B H σ ρ) (no : NoOwn ρ) (nb : B b = none) (ng : C.G b = none) : Stt K C B (upd H b o) σ ρ := S.move no (Same.refl _) (S.x.mutN nb ng)
theorem nest_all (N : Nest C B H a as dss) {B' : Hp} (sb : Same B B') (hb : ∀ b ∈ as, B' b = H b) : DtAll B' (as.map V.ref) (dss.map PyData.list) := by
  have : ∀ (as : List Addr) (dss : List (List PyData)), as.length = dss.length → (∀ b ∈ as, B' b = H b) → (∀ (i : Nat) (b : Addr) (ds : List PyData), as[i]? = some b → dss[i]? = some ds → ∃ xs, H b = some (.lst xs) ∧ B b = none ∧ C.G b = none ∧ DtAll B xs ds) → DtAll B' (as.map V.ref) (dss.map PyData.list) := by
    intro as
    induction as with
    | nil =>
      intro dss hl _ _
      cases dss with
      | nil => exact .nil
      | cons _ _ => cases hl
    | cons b as ih =>
      intro dss hl hb h
      cases dss with
      | nil => cases hl
      | cons ds dss =>
        obtain ⟨xs, h1, h2, h3, h4⟩ := h 0 b ds rfl rfl
        refine .cons (.lst ((hb b List.mem_cons_self).trans h1) (h4.on sb)) (ih dss (by simpa using hl) (fun c hc => hb c (List.mem_cons_of_mem _ hc)) fun i c es e1 e2 => h (i + 1) c es e1 e2)
  exact this as dss N.len hb N.inn
theorem Nest.frz (N : Nest C B H a as dss) (x : Ext C.B0 C.G B H) : ∃ B', Same B B' ∧ Ext C.B0 C.G B' H ∧ Dt B' (.ref a) (.list (dss.map PyData.list)) := by
  have hin : ∀ b ∈ as, B b = none ∧ C.G b = none := fun b hb => by
    obtain ⟨i, hi⟩ := List.mem_iff_getElem?.mp hb
    have hl : i < dss.length := by rw [← N.len]; exact (List.getElem?_eq_some_iff.mp hi).1
    obtain ⟨xs, h1, h2, h3, h4⟩ := N.inn i b _ hi (List.getElem?_eq_getElem hl)
    exact ⟨h2, h3⟩
  let B' : Hp := fun c => if c = a ∨ c ∈ as then H c else B c
  have eB : ∀ c, B' c = if c = a ∨ c ∈ as then H c else B c := fun _ => rfl
  have sb : Same B B' := fun c o e => by
    have : ¬ (c = a ∨ c ∈ as) := by
      rintro (rfl | h)
      · rw [N.ob] at e; cases e
      · rw [(hin c h).1] at e; cases e
    rw [eB, if_neg this]; exact e
  refine ⟨B', sb, ⟨x.b.trans sb, x.h, fun c o e => ?_, fun c o e => ?_⟩, .lst (by rw [eB, if_pos (.inl rfl)]; exact N.out) (nest_all N sb fun b hb => by rw [eB, if_pos (.inr hb)])⟩
  · rw [eB] at e
    split at e
    · exact e
    · exact x.s _ _ e
  · rw [eB] at e
    split at e
    · rename_i h
      rcases h with rfl | h
      · exact .inr (.inl N.og)
      · exact .inr (.inl (hin c h).2)
    · exact x.n _ _ e
end

/-! ### [[] for spot in ..] -/
theorem comp_nil {K : PySem.W.Frag} {C : Cc} {g : Tg} {tg : TG} {is vs : List Nat} (tk : TgOk K g tg is) (sub : ∀ i ∈ is, i ∈ vs) {it : DL} {σ : L2.St} {B H : Hp} {Q : VK} {ρ : Env} (S : Stt K C B H σ ρ) {ds : List PyData} (e : it ρ = .ok ds) (hz : ds.length ≤ lim)
    (hg : ∀ d, ∃ ρ1, g d (wipeE ρ vs) = .ok ρ1) (k : ∀ B' H' D as, Ext B H B' H' → Nest C B' H' D as (List.replicate ds.length []) → Q (.ref D) H') :
    tLc (tIb K C it) tg (tT K C.blk MS.tYes) (tL K C.blk lNil) vs σ H Q := by
  refine ⟨ρ, B, S, ?_⟩
  rw [e]
  intro J B1 H1 x1 w D hD
  let Pv : Nat → Hp → Prop := fun i H' => ∃ B' as, Ext B1 H1 B' H' ∧ Nest C B' H' D as (List.replicate i [])
  have gD : C.G D = none := ((S.on x1).x.h).free hD
  refine ⟨fun i m H' => m = ds.length - i ∧ i ≤ ds.length ∧ Pv i H', ⟨ds.length, by simp, Nat.zero_le _, B1, [], Ext.raw x1.s hD, upd_same, x1.s.free hD, gD, List.nodup_nil, List.not_mem_nil, rfl, fun i b ds e1 _ => by simp at e1⟩, ?_⟩
  rintro i m H' ⟨rfl, hi, B', as, x2, N⟩
  have sm' := x2.s
  by_cases hlt : i < ds.length
  · have ed : ds[i]? = some ds[i] := List.getElem?_eq_getElem hlt
    obtain ⟨go, yl⟩ := (w B' H' x2 sm' i).2 _ ed
    refine .inr ⟨go, Pv (i + 1), fun H2 p => ⟨ds.length - (i + 1), by omega, rfl, hlt, p⟩, fun x H2 y => ?_⟩
    obtain ⟨B2, x3, tx⟩ := yl x H2 y
    have Sw : Stt K C.blk B2 H2 (L2.wipe σ vs) (wipeE ρ vs) := ((((S.on x1).on x2).on x3).wipe vs).blk
    obtain ⟨ρ1, eg1⟩ := hg ds[i]
    refine tk.go Sw tx eg1 fun σ2 S2 hl2 hj2 => ⟨wipe_eq hl2 hj2 sub, ρ1, B2, S2, ?_⟩
    intro B3 H3 x4
    show tL K C.blk lNil σ2 H3 _
    refine ⟨ρ1, B3, S2.on x4, ?_⟩
    intro c xs B4 H4 x5 n3 n4 h4 t4
    cases t4
    have N4 := ((N.on x3).on x4).on x5
    have N3 := (N.on x3).on x4
    refine ⟨as.map V.ref, N4.out, ?_, B4, as ++ [c], ?_, ?_⟩
    · rw [List.length_map, N.len, List.length_replicate]
      exact lim_lt (by omega)
    · have x9 := ((x2.trans x3).trans x4).trans x5
      refine ⟨x9.b, fun b o q => ?_, fun b o q => ?_, x9.n⟩
      · rw [upd_ne (ne_of_none q hD)]
        exact x9.h _ _ q
      · have : b ≠ D := fun z => by rw [z, N4.ob] at q; cases q
        rw [upd_ne this]
        exact x9.s _ _ q
    · have hcD : c ≠ D := fun z => by
        have := N3.out
        rw [← z, n3] at this; cases this
      have hcas : c ∉ as := fun hb => by
        obtain ⟨j, hj⟩ := List.mem_iff_getElem?.mp hb
        have hl : j < (List.replicate i ([] : List PyData)).length := by rw [← N.len]; exact (List.getElem?_eq_some_iff.mp hj).1
        obtain ⟨ys, h1, _⟩ := N3.inn j c _ hj (List.getElem?_eq_getElem hl)
        rw [n3] at h1; cases h1
      have gc : C.G c = none := by
        have x9 := ((x1.trans x2).trans x3).trans x4
        exact ((S.on x9).x.h).free n3
      refine ⟨by rw [upd_same, List.map_append]; rfl, N4.ob, N4.og, ?_, ?_, by rw [List.length_append, List.length_replicate, N.len, List.length_replicate]; rfl, fun j b es f1 f2 => ?_⟩
      · rw [List.nodup_append]
        exact ⟨N.nd, by simp, fun p hp q hq z => by
          rw [List.mem_singleton] at hq
          subst hq; subst z
          exact hcas hp⟩
      · intro z
        rw [List.mem_append, List.mem_singleton] at z
        rcases z with z | z
        · exact N.na z
        · exact hcD z.symm
      · have ee : es = [] := by
          rw [List.getElem?_replicate] at f2
          split at f2
          · exact (Option.some.inj f2).symm
          · cases f2
        subst ee
        by_cases q : j < as.length
        · rw [List.getElem?_append_left q] at f1
          obtain ⟨ys, h1, h2, h3, h4'⟩ := N4.inn j b [] f1 (by
            rw [List.getElem?_replicate, if_pos]
            have := N.len
            rw [List.length_replicate] at this
            omega)
          have hbD : b ≠ D := fun z => N.na (z ▸ List.mem_of_getElem? f1)
          exact ⟨ys, by rw [upd_ne hbD]; exact h1, h2, h3, h4'⟩
        · rw [List.getElem?_append_right (by omega)] at f1
          have : b = c := by
            cases z : j - as.length with
            | zero => rw [z] at f1; exact (Option.some.inj f1).symm
            | succ n => rw [z] at f1; cases f1
          subst this
          exact ⟨[], by rw [upd_ne hcD]; exact h4, n4, gc, .nil⟩
  · have e : i = ds.length := by omega
    subst e
    exact .inl ⟨(w B' H' x2 sm' _).1 (Nat.le_refl _), k B' H' D as (x1.trans x2) N⟩

/-! ### l[i].append(x) -/
def tNapp (iF i j : Nat) : TS := fun D σ H => ∃ a vs k b xs y, σ[iF]? = some (some (V.ref a)) ∧ σ[i]? = some (some (V.int k)) ∧ σ[j]? = some (some y) ∧ H a = some (.lst vs) ∧ atI vs k = some (V.ref b) ∧ H b = some (.lst xs) ∧ xs.length < sizeLine ∧ D.nx σ (upd H b (.lst (xs ++ [y])))
section
variable {X : Cx} {C : Cc} {pos : Pos}
theorem ps_napp (iF i j : Nat) {f x y : Str} {fp xp yp sp apos cpos : Pos} (hF : X.N[iF]? = some f := by rfl) (hi : X.N[i]? = some x := by rfl) (hj : X.N[j]? = some y := by rfl)
    (vF : Vis X.env.scope f := by first | exact Or.inl rfl | exact Or.inr (Or.inl rfl) | exact Or.inr (Or.inr rfl)) (vi : Vis X.env.scope x := by first | exact Or.inl rfl | exact Or.inr (Or.inl rfl) | exact Or.inr (Or.inr rfl)) (vj : Vis X.env.scope y := by first | exact Or.inl rfl | exact Or.inr (Or.inl rfl) | exact Or.inr (Or.inr rfl))
    (df : (f == ("__debug__" : Str)) = false := by decide) (di : (x == ("__debug__" : Str)) = false := by decide) (dj : (y == ("__debug__" : Str)) = false := by decide)
    (cf : (f == ("__classdict__" : Str)) = false := by decide) (ci : (x == ("__classdict__" : Str)) = false := by decide) (cj : (y == ("__classdict__" : Str)) = false := by decide)
    (hpi : PlainIx (.Name x xp) := by intro _ _; rfl)
    (hst : starEach (.Name y yp :: []) X.env = (false, eval (.Name y yp) X.env) :: starEach [] X.env := by rfl) (hb : attributeBase (.Subscript (.Name f fp) (.Name x xp) sp) "append" X.env (eval (.Subscript (.Name f fp) (.Name x xp) sp) X.env) = eval (.Subscript (.Name f fp) (.Name x xp) sp) X.env := by rfl)
    (hfew : ((backTo cpos (starEach (.Name y yp :: []) X.env)).all (fun x => !x.1) && (backToKw cpos (keywordEach [] X.env)).all (fun x => x.1.isSome) && decide ((Expr.Name y yp :: []).length + ([] : List Keyword).length + (if ([] : List Keyword).isEmpty then 0 else 1) < 30)) = true := by rfl)
    (hline : (apos.endLine == cpos.line) = true := by rfl)
    (hs : swapsWith (.Call (.Attribute (.Subscript (.Name f fp) (.Name x xp) sp) "append" apos) [.Name y yp] [] cpos) none pos.line X.env = pure false := by rfl) :
    PS X (.Expr (.Call (.Attribute (.Subscript (.Name f fp) (.Name x xp) sp) "append" apos) [.Name y yp] [] cpos) pos) (tNapp iF i j) :=
  (ps_expr (pe_bm PySem.F.plainAttrs_list PySem.F.slot_list_append PySem.F.type_list_append mt_append (pe_ix ix_list (pe_var hF vF df cf) (pe_var hi vi di ci) hpi) (pa_cons (pe_var hj vj dj cj) pa_nil hst) hb hfew hline hst rfl) hs).imp fun D σ H ⟨a, vs, k, b, xs, y, h1, h2, h3, h4, h5, h6, h7, h8⟩ =>
    ⟨.ref a, h1, .int k, h2, a, vs, k, .ref b, rfl, rfl, SqL.of h4, h5, .inl ⟨rfl, xs, SqL.of h6⟩, y, h3, b, xs, y, rfl, rfl, h6, h7, h8⟩
theorem addAt_map (dss : List (List Int)) (i : Nat) (x : Int) (h : i < dss.length) : (addAt dss i x).map (fun ns => ns.map PyData.int) = (dss.map fun ns => ns.map PyData.int).set i ((dss.getD i []).map PyData.int ++ [PyData.int x]) := by
  unfold addAt
  rw [List.map_set, List.map_append]
  rfl
theorem pairsOf_get : ∀ {ls : List PyData} {ps : List (Int × Int)}, pairsOf ls = some ps → ls = ps.map prD
  | [], ps, h => by
    have h' : ([] : List (Int × Int)) = ps := Option.some.inj h
    subst h'; rfl
  | d :: ls, ps, h => by
    unfold pairsOf at h
    cases e1 : pairOf d with
    | none => rw [e1] at h; cases h
    | some p =>
      cases e2 : pairsOf ls with
      | none => rw [e1, e2] at h; cases h
      | some qs =>
        rw [e1, e2] at h
        have h' : p :: qs = ps := Option.some.inj h
        subst h'
        rw [List.map_cons, ← pairsOf_get e2]
        congr 1
        unfold pairOf at e1
        split at e1
        · have e1' := Option.some.inj e1
          subst e1'; rfl
        · cases e1
theorem xss_near (iw iF i1 i2 : Nat) {st1 st2 : Stmt} {rest : List Stmt} {g : DS} {gS : Tg} {gt g2 : TG} {is vs : List Nat}
    (h1 : PS X st1 (tAsg (tLc (tIb X.K C (iR1 (dIx (bVar iw) (dC (.int 0))))) gt (tT X.K C.blk MS.tYes) (tL X.K C.blk lNil) vs) (gName iF))) (tk : TgOk X.K gS gt is) (sub : ∀ i ∈ is, i ∈ vs) (hgS : ∀ d ρ, ∃ ρ1, gS d ρ = .ok ρ1)
    (h2 : PS X st2 (tFor (tI X.K C (iSeq (bOf (dIx (bVar iw) (dC (.int 1)))))) g2 (tSeq (tNapp iF i1 i2) (tNapp iF i2 i1)))) (tk2 : TgOk X.K (gT [i1, i2]) g2 [i1, i2])
    (h3 : XSs X C rest g) (n1 : iF ≠ i1) (n2 : iF ≠ i2) (n3 : i1 ≠ i2) (n4 : iw ≠ i1) (n5 : iw ≠ i2) (n6 : iw ≠ iF) : XSs X C (st1 :: st2 :: rest) (sSeq (sNear iw iF i1 i2) g) :=
  (pss_cons h1 (pss_cons h2 h3)).imp fun D σ H ⟨ρ, B, S, h⟩ => by
    have hn : sNear iw iF i1 i2 ρ ≠ .no := fun q => by
      have : sSeq (sNear iw iF i1 i2) g ρ = .no := by unfold sSeq; rw [q]
      rw [this] at h; exact h
    unfold sNear at hn
    split at hn
    · rename_i n ls eW
      split at hn
      · rename_i ps ep
        split at hn
        · rename_i hc
          have hcc := hc
          obtain ⟨⟨c1, c2, c3, c4⟩, c5, c6, c7, c8⟩ := hc
          have eg : sNear iw iF i1 i2 ρ = .nx (((ρ.set i1 .nil).set i2 .nil).set iF (.fz (.list ((nearGo ps (List.replicate n.toNat [])).map fun ns => .list (ns.map .int))))) := by
            unfold sNear
            rw [eW]
            simp only [ep]
            rw [if_pos hcc]
          have hS : sSeq (sNear iw iF i1 i2) g ρ = g (((ρ.set i1 .nil).set i2 .nil).set iF (.fz (.list ((nearGo ps (List.replicate n.toNat [])).map fun ns => .list (ns.map .int))))) := by
            unfold sSeq; rw [eg]
          rw [hS] at h
          have no : NoOwn ρ := fun i s e => by
            have := List.all_eq_true.mp c5 s (List.mem_of_getElem? e)
            simpa using this
          have els := pairsOf_get ep
          subst els
          have c4' : ∀ p ∈ ps, 0 ≤ p.1 ∧ p.1 < n ∧ 0 ≤ p.2 ∧ p.2 < n := fun p hp => of_decide_eq_true (List.all_eq_true.mp c4 p hp)
          have eit : iR1 (dIx (bVar iw) (dC (.int 0))) ρ = .ok (rngD 0 n.toNat) := by
            have : dIx (bVar iw) (dC (.int 0)) ρ = .ok (.int n) := by
              unfold dIx bVar dC
              rw [eW]
              rfl
            unfold iR1
            rw [this]
            show (if -1000000 ≤ n ∧ n ≤ 1000000 then Rs.ok (rngD 0 n.toNat) else .no) = _
            rw [if_pos (by omega)]
          show tLc _ _ _ _ _ σ H (fun x H1 => gName iF x σ H1 _)
          refine comp_nil tk sub S eit (by rw [rngD_len]; show n.toNat ≤ 1000000; omega) (fun d => hgS d _) fun B1 H1 D1 as x1 N1 => ?_
          rw [rngD_len] at N1
          -- the loop
          let ρ0 := ((ρ.set i1 Sl.nil).set i2 .nil).set iF .nil
          have get0 : ∀ (i : Nat) (s : Sl), ρ0[i]? = some s → s ≠ .nil → i ≠ i1 ∧ i ≠ i2 ∧ i ≠ iF ∧ ρ[i]? = some s := fun i s e ns => by
            rcases get_set_some e with ⟨_, z, _⟩ | ⟨q1, e⟩
            · exact absurd z ns
            · rcases get_set_some e with ⟨_, z, _⟩ | ⟨q2, e⟩
              · exact absurd z ns
              · rcases get_set_some e with ⟨_, z, _⟩ | ⟨q3, e⟩
                · exact absurd z ns
                · exact ⟨Ne.symm q3, Ne.symm q2, Ne.symm q1, e⟩
          have no0 : NoOwn ρ0 := fun i s e => by
            by_cases ns : s = .nil
            · subst ns; rfl
            · exact no i s (get0 i s e ns).2.2.2
          have len0 : ρ0.length = ρ.length := by simp [ρ0]
          have S1 : Stt X.K C B1 H1 σ ρ := S.on x1
          have hσl : σ.length = ρ.length := S.r.len
          have S2 : Stt X.K C B1 H1 (σ.set iF (some (V.ref D1))) ρ0 := by
            refine ⟨S1.x, ⟨by rw [List.length_set, len0]; exact hσl, fun i s e ns => ?_, fun i j s t v hij e1 e2 o1 o2 f1 f2 => ?_⟩⟩
            · obtain ⟨_, _, q, e'⟩ := get0 i s e ns
              obtain ⟨v, z1, z2⟩ := S1.r.at' i s e' ns
              exact ⟨v, by rw [List.getElem?_set_ne (Ne.symm q)]; exact z1, z2⟩
            · have := no0 i s e1
              rw [this] at o1; cases o1
          have eW0 : ρ0[iw]? = some (.fz (.tuple [.int n, .list (ps.map prD)])) := by
            show (((ρ.set i1 Sl.nil).set i2 .nil).set iF .nil)[iw]? = _
            rw [List.getElem?_set_ne (Ne.symm n6), List.getElem?_set_ne (Ne.symm n5), List.getElem?_set_ne (Ne.symm n4)]
            exact eW
          have eit2 : iSeq (bOf (dIx (bVar iw) (dC (.int 1)))) ρ0 = .ok (ps.map prD) := by
            have : dIx (bVar iw) (dC (.int 1)) ρ0 = .ok (.list (ps.map prD)) := by
              unfold dIx bVar dC
              rw [eW0]
              rfl
            unfold iSeq bOf
            rw [this]
            rfl
          refine ⟨ρ0, B1, S2, ?_⟩
          rw [eit2]
          intro J B2 H2 x2 w
          refine ⟨fun i m σ' H' => m = ps.length - i ∧ i ≤ ps.length ∧ ∃ B' dss, Same B2 B' ∧ Stt X.K C B' H' σ' ρ0 ∧ σ'[iF]? = some (some (V.ref D1)) ∧ Nest C B' H' D1 as (dss.map fun ns => ns.map PyData.int) ∧ dss.length = n.toNat ∧ (∀ j, (dss.getD j []).length ≤ 2 * i) ∧ nearGo (ps.drop i) dss = nearGo ps (List.replicate n.toNat []),
            ⟨ps.length, by simp, Nat.zero_le _, B2, List.replicate n.toNat [], Same.refl _, S2.on x2, List.getElem?_set_self (by rw [hσl]; exact c6), by
              have := N1.on x2
              rw [List.map_replicate]
              exact this, List.length_replicate, fun j => by
                rw [List.getD_eq_getElem?_getD, List.getElem?_replicate]
                split <;> simp, rfl⟩, ?_⟩
          rintro i m σ' H' ⟨rfl, hi, B', dss, sb, S', hF, N', hl, hb, hgo⟩
          by_cases hlt : i < ps.length
          · have ed : (ps.map prD)[i]? = some (prD ps[i]) := by rw [List.getElem?_map, List.getElem?_eq_getElem hlt]; rfl
            have edr : ps.drop i = ps[i] :: ps.drop (i + 1) := List.drop_eq_getElem_cons hlt
            obtain ⟨go, yl⟩ := (w B' H' sb S'.sm i).2 _ ed
            refine .inr ⟨go, fun σ2 H2 => ∃ B3 dss, Same B2 B3 ∧ Stt X.K C B3 H2 σ2 ρ0 ∧ σ2[iF]? = some (some (V.ref D1)) ∧ Nest C B3 H2 D1 as (dss.map fun ns => ns.map PyData.int) ∧ dss.length = n.toNat ∧ (∀ j, (dss.getD j []).length ≤ 2 * (i + 1)) ∧ nearGo (ps.drop (i + 1)) dss = nearGo ps (List.replicate n.toNat []),
              fun σ2 H2 p => ⟨ps.length - (i + 1), by omega, rfl, hlt, p⟩, fun x H3 y => ?_⟩
            obtain ⟨B3, x3, tx⟩ := yl x H3 y
            obtain ⟨a0, a1, a2, a3⟩ := c4' ps[i] (List.getElem_mem hlt)
            generalize hp : ps[i] = p at *
            obtain ⟨p1, p2⟩ := p
            simp only at a0 a1 a2 a3
            have eg2 : gT [i1, i2] (prD (p1, p2)) ρ0 = .ok ((ρ0.set i1 (.fz (.int p1))).set i2 (.fz (.int p2))) := rfl
            refine tk2.go (S'.on x3) tx eg2 fun σ2 T2 hl2 hj2 => ?_
            have N3 := N'.on x3
            have hF2 : σ2[iF]? = some (some (V.ref D1)) := by
              rw [hj2 iF (by simp [n1, n2])]
              exact hF
            have no2 : NoOwn ((ρ0.set i1 (.fz (.int p1))).set i2 (.fz (.int p2))) := fun j s e => by
              rcases get_set_some e with ⟨_, rfl, _⟩ | ⟨_, e⟩
              · rfl
              · rcases get_set_some e with ⟨_, rfl, _⟩ | ⟨_, e⟩
                · rfl
                · exact no0 j s e
            obtain ⟨v1, z1, t1⟩ := T2.r.at' i1 (.fz (.int p1)) (by rw [List.getElem?_set_ne (Ne.symm n3), List.getElem?_set_self (by rw [len0]; exact c7)]) (by intro q; cases q)
            obtain ⟨v2, z2, t2⟩ := T2.r.at' i2 (.fz (.int p2)) (by rw [List.getElem?_set_self (by rw [List.length_set, len0]; exact c8)]) (by intro q; cases q)
            cases (show Dt B3 v1 (.int p1) from t1)
            cases (show Dt B3 v2 (.int p2) from t2)
            have hlas : as.length = n.toNat := by rw [N3.len, List.length_map, hl]
            -- where the two lists lie
            have at_ : ∀ (q : Int), 0 ≤ q → q < n → ∃ b, as[q.toNat]? = some b ∧ atI (as.map V.ref) q = some (V.ref b) := fun q q0 q1 => by
              have hq : q.toNat < as.length := by omega
              refine ⟨as[q.toNat], List.getElem?_eq_getElem hq, ?_⟩
              rw [← atD_eq]
              unfold atD
              rw [if_pos q0, if_pos (by rw [List.length_map]; omega), List.getElem?_map, List.getElem?_eq_getElem hq]
              rfl
            obtain ⟨b1, hb1, hq1⟩ := at_ p1 a0 a1
            obtain ⟨b2, hb2, hq2⟩ := at_ p2 a2 a3
            have gd : ∀ (ds : List (List Int)) (q : Int), q.toNat < ds.length → (ds.map fun ns => ns.map PyData.int)[q.toNat]? = some ((ds.getD q.toNat []).map PyData.int) := fun ds q hq => by
              rw [List.getElem?_map, List.getD_eq_getElem?_getD, List.getElem?_eq_getElem hq]
              rfl
            have l1 : p1.toNat < dss.length := by omega
            have l2 : p2.toNat < dss.length := by omega
            obtain ⟨xs1, y1, y2, y3, y4⟩ := N3.inn p1.toNat b1 _ hb1 (gd dss p1 l1)
            have N4 := N3.add hb1 (gd dss p1 l1) y1 (d := .int p2) (.int p2)
            rw [← addAt_map dss p1.toNat p2 l1] at N4
            have T4 := T2.mutN (o := .lst (xs1 ++ [V.int p2])) no2 y2 y3
            have hl4 : (addAt dss p1.toNat p2).length = dss.length := by unfold addAt; rw [List.length_set]
            have l2' : p2.toNat < (addAt dss p1.toNat p2).length := by omega
            obtain ⟨xs2, w1, w2, w3, w4⟩ := N4.inn p2.toNat b2 _ hb2 (gd (addAt dss p1.toNat p2) p2 l2')
            have N5 := N4.add hb2 (gd (addAt dss p1.toNat p2) p2 l2') w1 (d := .int p1) (.int p1)
            rw [← addAt_map (addAt dss p1.toNat p2) p2.toNat p1 l2'] at N5
            have T5 := T4.mutN (o := .lst (xs2 ++ [V.int p1])) no2 w2 w3
            have bAdd : ∀ (ds : List (List Int)) (k : Nat) (z : Int) (M : Nat), (∀ j, (ds.getD j []).length ≤ M) → ∀ j, ((addAt ds k z).getD j []).length ≤ M + 1 := fun ds k z M hM j => by
              unfold addAt
              rw [List.getD_eq_getElem?_getD, List.getElem?_set]
              have h0 := hM k
              have h1 := hM j
              rw [List.getD_eq_getElem?_getD] at h0 h1
              split
              · split
                · simp only [Option.getD_some, List.length_append, List.length_singleton, List.getD_eq_getElem?_getD]; omega
                · simp
              · omega
            have lx1 : xs1.length < sizeLine := by
              rw [y4.len, List.length_map]
              have := hb p1.toNat
              exact lim_lt (by show _ ≤ 1000000; omega)
            have lx2 : xs2.length < sizeLine := by
              rw [w4.len, List.length_map]
              have := bAdd dss p1.toNat p2 _ hb p2.toNat
              exact lim_lt (by show _ ≤ 1000000; omega)
            refine ⟨D1, as.map V.ref, p1, b1, xs1, .int p2, hF2, z1, z2, N3.out, hq1, y1, lx1, D1, as.map V.ref, p2, b2, xs2, .int p1, hF2, z2, z1, N4.out, hq2, w1, lx2, ?_⟩
            refine ⟨B3, addAt (addAt dss p1.toNat p2) p2.toNat p1, sb.trans x3.b, T5.sub (by simp [ρ0]) fun j s e ns => ?_, hF2, N5, by unfold addAt; rw [List.length_set, List.length_set]; exact hl, fun j => ?_, ?_⟩
            · obtain ⟨q1, q2, _, _⟩ := get0 j s e ns
              rw [List.getElem?_set_ne (Ne.symm q2), List.getElem?_set_ne (Ne.symm q1)]
              exact e
            · have := bAdd _ p2.toNat p1 _ (bAdd dss p1.toNat p2 _ hb) j
              omega
            · rw [← hgo, edr]
              rfl
          · have e : i = ps.length := by omega
            subst e
            rw [List.drop_length] at hgo
            have hgo' : dss = nearGo ps (List.replicate n.toNat []) := hgo
            subst hgo'
            refine .inl ⟨(w B' H' sb S'.sm _).1 (by rw [List.length_map]; exact Nat.le_refl _), ?_⟩
            obtain ⟨B4, sb4, x4, t4⟩ := N'.frz S'.x
            have S4 := S'.move no0 sb4 x4
            have S5 : Stt X.K C B4 H' σ' (((ρ.set i1 .nil).set i2 .nil).set iF (.fz (.list ((nearGo ps (List.replicate n.toNat [])).map fun ns => .list (ns.map .int))))) := by
              rw [List.map_map] at t4
              have hli : iF < ((ρ.set i1 Sl.nil).set i2 .nil).length := by rw [List.length_set, List.length_set]; exact c6
              refine ⟨S4.x, ⟨by rw [List.length_set, List.length_set, List.length_set, S4.r.len, len0], fun j s e ns => ?_, fun j k s t v hjk e1 e2 o1 o2 f1 f2 => ?_⟩⟩
              · rcases get_set_some e with ⟨rfl, rfl, _⟩ | ⟨q, e⟩
                · exact ⟨_, hF, t4⟩
                · refine S4.r.at' j s ?_ ns
                  show (((ρ.set i1 Sl.nil).set i2 .nil).set iF .nil)[j]? = _
                  rw [List.getElem?_set_ne q]
                  exact e
              · have hno : s.own = false := by
                  rcases get_set_some e1 with ⟨_, rfl, _⟩ | ⟨q, e1⟩
                  · rfl
                  · refine no0 j s ?_
                    show (((ρ.set i1 Sl.nil).set i2 .nil).set iF .nil)[j]? = _
                    rw [List.getElem?_set_ne q]
                    exact e1
                rw [hno] at o1; cases o1
            exact ⟨_, B4, S5, h.on ((x1.b.trans x2.b).trans (sb.trans sb4))⟩
        · exact absurd rfl hn
      · exact absurd rfl hn
    · exact absurd rfl hn
end

/-! ### what the text's errors are, in the written part -/
theorem tok_n {K : PySem.W.Frag} (i : Nat) : TgOk K (gN i) (gName i) [i] := ⟨fun {C B H v d σ ρ ρ' Q} S t e k => by
      have e' : ρ.set i (.fz d) = ρ' := by injection e
      subst e'
      exact k _ (S.set i t) (List.length_set ..) (fun j hj => List.getElem?_set_ne (fun q => hj (by simp [q]))), fun _ _ _ h => by cases h⟩
structure TgsOk (tg : TGs) (is : List Nat) : Prop where
  go : ∀ {K : PySem.W.Frag} {C : Cc} {B H : Hp} {vs : List V} {ds : List PyData} {σ : L2.St} {ρ : Env} {Q : L2.St → Hp → Prop}, Stt K C B H σ ρ → DtAll B vs ds → ds.length = is.length → (∀ σ', Stt K C B H σ' (setAll is ds ρ) → σ'.length = σ.length → (∀ j, j ∉ is → σ'[j]? = σ[j]?) → Q σ' H) → tg vs σ H Q
theorem toks_nil : TgsOk gNil [] := ⟨fun {K C B H vs ds σ ρ Q} S t hl k => by
  cases ds with
  | nil => cases t; exact ⟨rfl, k σ S rfl fun _ _ => rfl⟩
  | cons _ _ => cases hl⟩
theorem toks_cons (i : Nat) {tg : TGs} {is : List Nat} (h2 : TgsOk tg is) : TgsOk (gCons (gName i) tg) (i :: is) := ⟨fun {K C B H vs ds σ ρ Q} S t hl k => by
  cases ds with
  | nil => cases hl
  | cons d ds =>
    cases t with
    | @cons v vs _ _ t1 t2 =>
      refine ⟨v, vs, rfl, ?_⟩
      refine h2.go (S.set i t1) t2 (by simpa using hl) fun σ' S' hl' hj => k σ' S' (by rw [hl', List.length_set]) fun j hj' => ?_
      rw [hj j (fun q => hj' (List.mem_cons_of_mem _ q)), List.getElem?_set_ne (fun q => hj' (by simp [q]))]⟩
theorem tok_t {K : PySem.W.Frag} {tg : TGs} {is : List Nat} (h : TgsOk tg is) : TgOk K (gT is) (gTup K is.length tg) is := ⟨(fun {C B H v d σ ρ ρ' Q} S t e k => by
    cases t with
    | @tup a xs ds h1 h2 =>
      obtain ⟨hl, e'⟩ := if_ok (show (if ds.length = is.length then Rs.ok (setAll is ds ρ) else .no) = .ok ρ' from e)
      subst e'
      exact ⟨a, xs, rfl, SqT.of (S.sm _ _ h1), by rw [h2.len]; exact hl, h.go S h2 hl k⟩
    | _ => cases e), fun d ρ k h => by
      unfold gT at h
      split at h
      · exact if_ne h
      · cases h⟩
def ecF (a b c d e f : Addr) : MS.XK → Addr
  | .web => a
  | .marks => b
  | .slide => c
  | .unlike => d
  | .tree => e
  | .text => f
theorem kit_own {K : PySem.W.Frag} {a b : Addr} {r : Bool} (i : PySem.W.isClsIn K b = true) (t : PySem.W.typeIn K (.ref b) = some (.type "type")) (s : PySem.W.subIn K (.ref a) (.ref b) = some r) (hr : a = b → r = true) : PySem.W.kitOne K (.ref a) (.ref b) = some r := by
  unfold PySem.W.kitOne
  split
  · rename_i h
    have : a = b := Value.ref.inj (beq_iff_eq.mp h)
    rw [hr this]
  · unfold PySem.W.kitCls
    have e2 : ((PySem.W.clsIn K b).isSome && PySem.W.typeIn K (.ref b) == some (.type "type")) = true := by
      have i' : (PySem.W.clsIn K b).isSome = true := i
      rw [i', t]; rfl
    show (if ((PySem.W.clsIn K b).isSome && PySem.W.typeIn K (.ref b) == some (.type "type")) = true then PySem.W.subIn K (.ref a) (.ref b) else none) = some r
    rw [if_pos e2]
    exact s
theorem kit_val {K : PySem.W.Frag} {a : Addr} {r : Bool} (s : PySem.W.subIn K (.ref a) (.type "ValueError") = some r) : PySem.W.kitOne K (.ref a) (.type "ValueError") = some r := by
  unfold PySem.W.kitOne
  rw [if_neg (by intro h; cases (beq_iff_eq.mp h))]
  show (if PySem.W.kitMeta "ValueError" = true then PySem.W.subIn K (.ref a) (.type "ValueError") else none) = some r
  rw [if_pos (by decide +kernel)]
  exact s
/-- one error's class -/
structure Kc (K : PySem.W.Frag) (x : Str) (C CS : Addr) : Prop where
  g : PySem.W.nsIn K mainGlobals x = some (some (.ref C))
  k : PySem.W.keepIn K (.ref C) = true
  x : PySem.W.excIn K C [.type "ValueError", .type "Exception", .type "BaseException", .type "object"] "ValueError.__new__" = true
  b : PySem.W.subIn K (.ref C) (.type "BaseException") = some true
  v : PySem.W.subIn K (.ref C) (.type "ValueError") = some true
  t : PySem.W.typeIn K (.ref C) = some (.type "type")
  i : PySem.W.isClsIn K C = true
  s : PySem.W.subIn K (.ref C) (.ref CS) = some true
  hg : PySem.W.findIn K (.ref C) "__getattribute__" = some (some (.builtin "BaseException.__getattribute__"))
  hk : PySem.W.findIn K (.ref C) "__getattr__" = some none
  hd : PySem.W.hasDictIn K C = true
  ha : PySem.W.findIn K (.ref C) "__class__" = some (some (.builtin "object.__class__"))
  hm : PySem.W.mroIn K C (.type "object") = some true
/-- the mother of them -/
structure Ks (K : PySem.W.Frag) (CS : Addr) : Prop where
  g : PySem.W.nsIn K mainGlobals "SlideError" = some (some (.ref CS))
  b : PySem.W.subIn K (.ref CS) (.type "BaseException") = some true
  t : PySem.W.typeIn K (.ref CS) = some (.type "type")
  hd : PySem.W.hasDictIn K CS = true
  hn : PySem.W.specialIn K (.builtin "object.__class__") "__get__" = some (some (.builtin "getset_descriptor.__get__"))
  ht : PySem.W.takesIn K (.builtin "object.__class__") = some true
def xName : MS.XK → Str
  | .web => "BadWeb"
  | .marks => "BadMarks"
  | .slide => "BadSlide"
  | .unlike => "Unlike"
  | .tree => "NoTree"
  | .text => "BadText"
/-- all of them -/
structure KAll (K : PySem.W.Frag) (mg : Str → Option Value) (ec : MS.XK → Addr) (CS : Addr) : Prop where
  sl : mg "SlideError" = some (.ref CS)
  e : ∀ k, ExT K mg (xName k) (ec k)
  exk : ∀ k, PySem.W.exmOne K (.ref (ec k)) (.ref CS) = some (ksAll k)
  kx : KXc K ec
  o : ∀ k k', PySem.W.subIn K (.ref (ec k')) (.ref (ec k)) = some (decide (k' = k))
theorem kall_mk {K : PySem.W.Frag} {h : Heap} {mg : Str → Option Value} {ec : MS.XK → Addr} {CS : Addr} (X : K.In h) (G : h.Ns mainGlobals mg) (S : Ks K CS) (c : ∀ k, Kc K (xName k) (ec k) CS) (o : ∀ k k', PySem.W.subIn K (.ref (ec k')) (.ref (ec k)) = some (decide (k' = k))) : KAll K mg ec CS where
  sl := PySem.W.mg_of X G S.g
  e := fun k => ⟨PySem.W.mg_of X G (c k).g, (c k).k, (c k).x, (c k).b, (c k).t⟩
  exk := fun k => PySem.W.exm_ref S.b S.hd S.t (c k).s
  kx := ⟨fun k => ⟨(c k).hg, (c k).hk, (c k).b, (c k).hd, (c k).ha, S.hn, S.ht, (c k).hm⟩, fun k k' => kit_own (c k).i (c k).t (o k k') fun e => by
    have h1 := o k k'
    have h2 := o k k
    rw [e] at h1
    rw [h1] at h2
    have := Option.some.inj h2
    rw [this]
    simp, fun k => kit_val (c k).v⟩
  o := o
/-- the promise of a law -/
def spLaw (K : PySem.W.Frag) : Sp := fun vs H Q _ => ∃ (a : Addr) (ns : List Int), vs = [.ref a] ∧ SqL K H a (ns.map V.int) ∧ ns.length ≤ 63 ∧ ∀ H', Q (.bl true) H'
theorem spLaw_D {K : PySem.W.Frag} {ec : MS.XK → Addr} {g : DF} (hg : ∀ ns : List Int, ns.length ≤ 63 → g [.sc ns] = .ok (.bool true)) {vs : List V} {H : Hp} {Q : VK} {E : L2.XK} (h : spLaw K vs H Q E) : spD K ec 1 g vs H Q E := by
  obtain ⟨a, ns, rfl, hS, hl, k⟩ := h
  refine ⟨rfl, H, [.sc ns], Same.refl _, .cons ⟨a, rfl, hS⟩ .nil, ?_⟩
  rw [hg ns hl]
  intro v B' H' x t
  cases t
  exact k H'
end MS

/-! MsLayM: dicts with tuples of ints as keys. -/
namespace MS
open PySem PySem.Spec L2 PyProof.Rows

theorem inl_dec (a b : List Int) : decide ((a.map Sum.inl : List Key) = b.map Sum.inl) = decide (a = b) := decide_eq_decide.mpr ⟨map_inl, fun h => by rw [h]⟩
theorem kvt_any {B : Hp} {ks : List (List Key × V)} {kvs : List (List Int × PyData)} (h : KvT B ks kvs) (k : List Int) : (ks.any fun p => decide (p.1 = k.map Sum.inl)) = kvs.any fun p => decide (p.1 = k) := by
  induction h with
  | nil => rfl
  | @cons p q ps qs r t ih =>
    rw [List.any_cons, List.any_cons, ih, r.1, inl_dec]
theorem kvt_rep {B : Hp} {ks : List (List Key × V)} {kvs : List (List Int × PyData)} (h : KvT B ks kvs) (k : List Int) {v : V} {d : PyData} (t : Dt B v d) : KvT B (ks.map fun kv => if kv.1 = k.map Sum.inl then (kv.1, v) else kv) (kvs.map fun p => if p.1 = k then (p.1, d) else p) := by
  induction h with
  | nil => exact .nil
  | @cons p q ps qs r u ih =>
    rw [List.map_cons, List.map_cons]
    refine .cons ?_ ih
    by_cases e : q.1 = k
    · rw [if_pos e, if_pos (by rw [r.1, e])]
      exact ⟨r.1, t⟩
    · rw [if_neg e, if_neg (by rw [r.1]; exact fun z => e (map_inl z))]
      exact r
theorem kvt_add {B : Hp} {ks : List (List Key × V)} {kvs : List (List Int × PyData)} (h : KvT B ks kvs) (k : List Int) {v : V} {d : PyData} (t : Dt B v d) : KvT B (ks ++ [(k.map Sum.inl, v)]) (kvs ++ [(k, d)]) := by
  induction h with
  | nil => exact .cons ⟨rfl, t⟩ .nil
  | @cons p q ps qs r u ih => exact .cons r ih
theorem kvt_put {B : Hp} {ks : List (List Key × V)} {kvs : List (List Int × PyData)} (h : KvT B ks kvs) (k : List Int) {v : V} {d : PyData} (t : Dt B v d) : KvT B (putK ks (k.map Sum.inl) v) (putT kvs k d) := by
  unfold putK putT
  rw [kvt_any h k]
  split
  · exact kvt_rep h k t
  · exact kvt_add h k t
/-- the key's tuple -/
theorem key_tup {B H : Hp} {v : V} {d : PyData} {k : List Int} (sm : Same B H) (t : Dt B v d) (e : tkey d = .ok k) : ∃ b, v = .ref b ∧ H b = some (.tup ((k.map Sum.inl : List Key).map kV)) := by
  cases t with
  | @tup a xs ds h1 h2 =>
    have e1 : ofO (intsOf ds) = .ok k := e
    cases e2 : intsOf ds with
    | none => rw [e2] at e1; cases e1
    | some ns =>
      rw [e2] at e1
      have e' : ns = k := by injection e1
      subst e'
      exact ⟨a, rfl, by rw [sm _ _ h1, h2.ints e2, kV_inl]⟩
  | _ => cases e
theorem own_dict {K : PySem.W.Frag} {C : Cc} {B H : Hp} {σ : L2.St} {ρ : Env} {i : Nat} {kvs : List (List Int × PyData)} (S : Stt K C B H σ ρ) (e : ρ[i]? = some (.dc kvs)) : ∃ a ks, σ[i]? = some (some (.ref a)) ∧ H a = some (.dT ks) ∧ B a = none ∧ C.G a = none ∧ KvT B ks kvs := by
  obtain ⟨v, h1, a, xs, rfl, z1, z2, z3, z4⟩ := S.r.at' i _ e (by intro q; cases q)
  exact ⟨a, xs, h1, z1, z2, z3, z4⟩
theorem tk_ne (d : PyData) (k : MS.XK) : tkey d ≠ .er k := by
  intro h
  cases d with
  | tuple ds =>
    have h' : ofO (intsOf ds) = .er k := h
    cases q : intsOf ds <;> rw [q] at h' <;> cases h'
  | _ => cases h
section
variable {X : Cx} {C : Cc} {e a b c : Expr} {f g : DE} {pos p apos cpos : Pos}
theorem xe_dget (i : Nat) {k : Nat} {x : Str} (hr : Room k X.A) (he : XE X C e f) (hN : X.N[i]? = some x := by rfl) (hv : Vis X.env.scope x := by first | exact Or.inl rfl | exact Or.inr (Or.inl rfl) | exact Or.inr (Or.inr rfl)) (hd : (x == ("__debug__" : Str)) = false := by decide) (hcd : (x == ("__classdict__" : Str)) = false := by decide) (hs : NoSl e := by intro _ _; rfl) :
    XE X C (.Subscript (.Name x p) e pos) (dDget i f) := by
  have hu : X.A.units + 1 < cLine := by have := hr.un; omega
  exact (pe_dget hu (pe_var hN hv hd hcd) he hs).imp fun σ H Q ⟨ρ, B, S, h⟩ => by
    unfold dDget at h
    split at h
    · rename_i kvs e
      obtain ⟨a, ks, z1, z2, z3, z4, z5⟩ := own_dict S e
      refine ⟨.ref a, z1, ρ, B, S, bindP h fun d _ h v B1 H1 x1 t1 => ?_⟩
      cases et : tkey d with
      | er k => exact absurd et (tk_ne d k)
      | no => rw [et] at h; exact h.elim
      | ok ns =>
        rw [et, Rs.bind_ok] at h
        obtain ⟨b, rfl, hb⟩ := key_tup x1.s t1 et
        have g := (z5.get ns).1
        cases eg : getT kvs ns with
        | none => rw [eg] at h; exact h.elim
        | some d' =>
          rw [eg] at h g
          obtain ⟨v', g1, g2⟩ := g
          refine ⟨a, v', rfl, ?_, h v' B1 H1 x1 (g2.on x1.b)⟩
          rw [← g1]
          exact DGet.t (x1.h _ _ z2) hb
    · exact h.elim
theorem xe_dgetn (i : Nat) {k : Nat} {x : Str} (hr : Room k X.A) (he : XE X C e f) (hN : X.N[i]? = some x := by rfl) (hv : Vis X.env.scope x := by first | exact Or.inl rfl | exact Or.inr (Or.inl rfl) | exact Or.inr (Or.inr rfl)) (hd : (x == ("__debug__" : Str)) = false := by decide) (hcd : (x == ("__classdict__" : Str)) = false := by decide)
    (m : M1 X (.Name x p) "get" apos e cpos := by exact ⟨rfl, rfl, rfl, rfl⟩) : XE X C (.Call (.Attribute (.Name x p) "get" apos) [e] [] cpos) (dDgetN i f) := by
  have hu : X.A.units + 1 < cLine := by have := hr.un; omega
  exact (pe_dget1 hu (pe_var hN hv hd hcd) he m).imp fun σ H Q ⟨ρ, B, S, h⟩ => by
    unfold dDgetN at h
    split at h
    · rename_i kvs e
      obtain ⟨a, ks, z1, z2, z3, z4, z5⟩ := own_dict S e
      refine ⟨.ref a, z1, a, rfl, .inr ⟨ks, .inl z2⟩, ρ, B, S, bindP h fun d _ h v B1 H1 x1 t1 => ?_⟩
      cases et : tkey d with
      | er k => exact absurd et (tk_ne d k)
      | no => rw [et] at h; exact h.elim
      | ok ns =>
        rw [et, Rs.bind_ok] at h
        obtain ⟨b, rfl, hb⟩ := key_tup x1.s t1 et
        have g := (z5.get ns).1
        refine ⟨_, DGet.t (x1.h _ _ z2) hb, ?_⟩
        cases eg : getT kvs ns with
        | none =>
          rw [eg] at h g
          rw [g]
          exact h .non B1 H1 x1 .non
        | some d' =>
          rw [eg] at h g
          obtain ⟨v', g1, g2⟩ := g
          rw [g1]
          exact h v' B1 H1 x1 (g2.on x1.b)
    · exact h.elim
theorem xs_dput (i : Nat) {k : Nat} {x : Str} {p' : Pos} (hr : Room k X.A) (hk : XE X C e f) (hw : XE X C a g) (hN : X.N[i]? = some x := by rfl) (hv : Vis X.env.scope x := by first | exact Or.inl rfl | exact Or.inr (Or.inl rfl) | exact Or.inr (Or.inr rfl)) (hd : (x == ("__debug__" : Str)) = false := by decide) (hcd : (x == ("__classdict__" : Str)) = false := by decide)
    (hs : swapsWith a (some (.Subscript (.Name x p) e p')) pos.line X.env = pure false := by rfl) : XS X C (.Assign [.Subscript (.Name x p) e p'] a pos) (sDput i f g) := by
  have hu : X.A.units + 1 < cLine := by have := hr.un; omega
  exact (ps_dput hu (pe_var hN hv hd hcd) hk hw hs).imp fun D σ H ⟨ρ, B, S, h⟩ => by
    unfold sDput at h
    split at h
    · rename_i kvs e
      obtain ⟨a, ks, z1, z2, z3, z4, z5⟩ := own_dict S e
      refine ⟨ρ, B, S, bindS S h fun d _ h v B1 H1 x1 t1 => ⟨.ref a, z1, ρ, B1, S.on x1, bindS (S.on x1) (pS.on h x1.b) fun dk _ h w B2 H2 x2 t2 => ?_⟩⟩
      cases et : tkey dk with
      | er k => exact absurd et (tk_ne dk k)
      | no => rw [et] at h; exact h.elim
      | ok ns =>
        rw [et, bE_ok] at h
        obtain ⟨b, rfl, hb⟩ := key_tup x2.s t2 et
        by_cases hz : kvs.length < lim
        · rw [if_pos hz] at h
          have z2' := x2.h _ _ (x1.h _ _ z2)
          refine ⟨a, _, rfl, DPut.t z2' hb (by rw [Paired.length z5]; exact lim_lt (Nat.le_of_lt hz)), ?_⟩
          have S2 := (S.on x1).on x2
          have nB := none_ext (x1.trans x2) z2 z3
          exact h σ B2 _ x2.b (S2.mut e rfl z1 rfl ⟨a, _, rfl, upd_same, nB, z4, kvt_put ((z5.on x1.b).on x2.b) ns (t1.on x2.b)⟩)
        · rw [if_neg hz] at h
          exact h.elim
    · exact h.elim
/-! {k: v}, the key a tuple of ints -/
def tDicT (tk tv : TE) : TE := fun σ H Q => ∀ p, H p = none → tk σ (upd H p (.dT [])) fun x H1 => tv σ H1 fun y H2 => H2 p = some (.dT []) ∧ ∃ (k : List Key) (b : Addr), x = .ref b ∧ H2 b = some (.tup (k.map kV)) ∧ b ≠ p ∧ Q (.ref p) (upd H2 p (.dT [(k, y)]))
theorem pe_dicT {tk tv : TE} {k : Nat} (hr : Room k X.A) (hk : PE X e tk) (hw : PE X a tv) : PE X (.Dict [some e] [a] pos) (tDicT tk tv) := by
  refine ⟨fun pins s σ H Q I q => ?_⟩
  have hn := I.hok.fresh (Nat.le_refl s.heap.objs.size)
  have I1 := I.laid (a := s.heap.objs.size) (o := .dT []) (h' := s.heap.push { cls := .type "dict", data := .dict #[] }) (t' := s.toks) (fun _ _ q => Heap.get?_push_of_some _ q) (Nat.le_refl _) (dt_empty s.heap I.big)
  have hp : PPs X pos [some e] [a] [(tk, tv)] := pps_cons hk hw pps_nil
  rw [arm_eval_Dict, zip_pairTrees [some e] [a] X.env pos rfl rfl, dictDisplay_pairs (pairTrees [some e] [a] X.env pos) (by simp [pairTrees]) (by simp [pairTrees])]
  refine wpAny_bind (wpAny_standAt (wpAny_bind (wpAny_subDictH (knd := tupleKind (mixKind X.prog X.w)) (Q := fun d s' => wpAny (model X.prog X.w) X.A (pure (Value.ref d)) (EP X pins σ Q) X.xe s') (by have := hr.un; show X.A.units < cLine; omega) (by simp [pairTrees]) ?_)))
  let Qp : List (V × V) → Hp → Prop := fun ps H2 => match ps with
    | [(x, y)] => H2 s.heap.objs.size = some (.dT []) ∧ ∃ (k : List Key) (b : Addr), x = V.ref b ∧ H2 b = some (.tup (k.map kV)) ∧ b ≠ s.heap.objs.size ∧ Q (.ref s.heap.objs.size) (upd H2 s.heap.objs.size (.dT [(k, y)]))
    | _ => False
  refine thn (hp.run pins _ σ _ Qp I1 (q _ hn)) fun ws s2 hh => ?_
  obtain ⟨ps, H2, I2, rel, qq⟩ := hh
  match ps, rel, qq with
  | [(x, y)], rel, qq =>
    obtain ⟨e2, kk, b, rfl, eb, hne, q2⟩ := qq
    cases rel with
    | @cons _ w _ _ r1 r2 =>
      cases r2
      obtain ⟨ra, rv⟩ := r1
      obtain ⟨w1, w2⟩ := w
      cases (show w1 = Value.ref b from ra)
      obtain ⟨z, hd, xs, rel, dd⟩ := dt_of I2.hok e2
      cases rel
      refine ⟨[(kk, b, w2)], ⟨rfl, rfl, key_of I2.hok eb, trivial⟩, dd, fun h' tk dd' hs => wpAny_pure ⟨.ref s.heap.objs.size, _, ?_, rfl, q2⟩⟩
      have he : ∃ q, h'.get? s.heap.objs.size = some q := let ⟨q, _, _, hq, _⟩ := dd'; ⟨q, hq⟩
      refine d_write I2 (by rw [e2]; exact True.intro) hs he ?_
      obtain ⟨o, es, ep, h1, h2, h3, h4, h5, h6⟩ := dd'
      exact ⟨by show 1 ≤ sizeLine; decide, hd, [(kk, b, w2)], .cons ⟨rfl, by rw [upd_ne hne]; exact eb, rv⟩ .nil, o, es, ep, h1, h2, h3, h4, h6⟩
theorem xs_dic1 (i : Nat) {k : Nat} {x : Str} {p' : Pos} (hN : X.N.Nodup) (hr : Room k X.A) (hk : XE X C e f) (hw : XE X C a g) (hi : X.N[i]? = some x := by rfl) (hx : Loc X.env.scope x := by first | exact Or.inl rfl | exact Or.inr rfl) (hs : swapsWith (.Dict [some e] [a] p) (some (.Name x p')) pos.line X.env = pure false := by rfl) (hf : X.fn x = true ∨ X.env.scope.names.lookup x = some .local := by first | exact .inl rfl | exact .inr rfl | assumption) :
    XS X C (.Assign [.Name x p'] (.Dict [some e] [a] p) pos) (sDic1 i f g) := (ps_set hN hi hx (pe_dicT hr hk hw) hs hf).imp fun D σ H ⟨ρ, B, S, h⟩ => by
  intro q hq
  have x0 : Ext B H B (upd H q (.dT [])) := Ext.raw S.sm hq
  have nB : B q = none := S.sm.free hq
  have S0 := S.on x0
  refine ⟨ρ, B, S0, bindS S0 (pS.on h (Same.refl _)) fun d _ h v B1 H1 x1 t1 => ⟨ρ, B1, S0.on x1, bindS (S0.on x1) (pS.on h x1.b) fun d2 _ h w B2 H2 x2 t2 => ?_⟩⟩
  have x12 := x1.trans x2
  have e2 : H2 q = some (.dT []) := x12.h _ _ upd_same
  have nB2 : B2 q = none := none_ext x12 upd_same nB
  refine ⟨e2, ?_⟩
  cases et : tkey d with
  | er k => exact absurd et (tk_ne d k)
  | no => rw [et] at h; exact h.elim
  | ok ns =>
    rw [et, bE_ok] at h
    obtain ⟨b, rfl, hb⟩ := key_tup x2.s (t1.on x2.b) et
    have hne : b ≠ q := fun z => by subst z; rw [e2] at hb; cases hb
    refine ⟨ns.map Sum.inl, b, rfl, hb, hne, ?_⟩
    have xx : Ext B H B2 (upd H2 q (.dT [(ns.map Sum.inl, w)])) := by
      have y := x0.trans x12
      exact ⟨y.b, fun c o z => by rw [upd_ne (ne_of_none z hq)]; exact y.h _ _ z, fun c o z => by rw [upd_ne (ne_of_none z nB2)]; exact y.s _ _ z, y.n⟩
    exact h _ B2 _ x2.b (S.setL i xx hq rfl ⟨q, _, rfl, upd_same, nB2, S.x.h.free hq, .cons ⟨rfl, t2⟩ .nil⟩)
end
end MS

namespace MS
open PySem
def d_look_web : DF := runD (
  sSeq (sTg (gT [1, 2]) (dVar 0))
  (sSeq (sIf (tNot (tCh cLe cLe (dC (.int 1)) (dVar 1) (dC (.int 12))))
  (sRaise .web)
  sNx)
  (sFor (iR1 (dLen (bVar 2))) (gN 3)
  (sIf (tOr (tCmp cNe (dLen (bOf (dIx (bVar 2) (dVar 3)))) (dC (.int 2))) (tOr (tNot (tCh3 cLe cLt cLt (dC (.int 0)) (dIx (bOf (dIx (bVar 2) (dVar 3))) (dC (.int 0))) (dIx (bOf (dIx (bVar 2) (dVar 3))) (dC (.int 1))) (dVar 1))) (tAnd (tCmp cGt (dVar 3) (dC (.int 0))) (tNot (tCmp cLt (dIx (bVar 2) (dBin opSub (dVar 3) (dC (.int 1)))) (dIx (bVar 2) (dVar 3)))))))
  (sRaise .web)
  sNx)))) 4
def d_near : DF := runD (
  sSeq (sNear 0 1 2 3)
  (sRet (dLst (lComp (iSeq (bVar 1)) (gN 5) tYes (dLst (lSorted (bVar 5))) [5])))) 6
def d_is_marks : DF := runD (
  sSeq (sIf (tOr (tCmp cNe (dLst (lList (bVar 1))) (dLst (lSSI (dVar 1)))) (tNot (tTru (bOf (dAll (dLst (lComp (iSeq (bVar 1)) (gN 4) tYes (dT (tCh cLe cLt (dC (.int 0)) (dVar 4) (dIx (bVar 0) (dC (.int 0))))) [4])))))))
  (sRet (dC (.bool false)))
  sNx)
  (sRet (dNot (dAny (dLst (lComp (iSeq (bOf (dIx (bVar 0) (dC (.int 1))))) (gT [2, 3]) tYes (dAnd (dT (tIn (dVar 2) (bVar 1))) (dT (tIn (dVar 3) (bVar 1)))) [2, 3])))))) 5
def d_look_marks : DF := runD (
  sSeq (sExpr (dCall d_look_web (saCons (bVar 0) saNil)))
  (sIf (tNot (tTru (bOf (dCall d_is_marks (saCons (bVar 0) (saCons (bVar 1) saNil))))))
  (sRaise .marks)
  sNx)) 2
def d_moved : DF := runD (
  sRet (dTuple (dLst (lSorted (bOf (dBin opAdd (dLst (lComp (iSeq (bVar 0)) (gN 3) (tCmp cNe (dVar 3) (dVar 1)) (dVar 3) [3])) (dLst (lCons (dVar 2) lNil)))))))) 4
def d_slides_of : DF := runD (
  sSeq (sOwn 3 lNil)
  (sSeq (sFor (iSeq (bOf (dVar 2))) (gN 4)
  (sFor (iSeq (bOf (dIx (bVar 1) (dVar 4)))) (gN 5)
  (sIf (tAnd (tNin (dVar 5) (bVar 2)) (tTru (bOf (dCall d_is_marks (saCons (bVar 0) (saCons (bOf (dCall d_moved (saCons (bVar 2) (saCons (bVar 4) (saCons (bVar 5) saNil))))) saNil))))))
  (sApp 3 (dTup (lCons (dVar 4) (lCons (dVar 5) lNil))))
  sNx)))
  (sSeq (sFrz 3) (sRet (dVar 3))))) 6
def d_look_two : DF := runD (
  sSeq (sExpr (dCall d_look_marks (saCons (bVar 0) (saCons (bVar 1) saNil))))
  (sSeq (sExpr (dCall d_look_marks (saCons (bVar 0) (saCons (bVar 2) saNil))))
  (sIf (tCmp cNe (dLen (bVar 1)) (dLen (bVar 2)))
  (sRaise .unlike)
  sNx))) 3
def d_room : DF := runD (
  sSeq (sExpr (dCall d_look_marks (saCons (bVar 0) (saCons (bVar 1) saNil))))
  (sSeq (sSet 2 (dCall d_near (saCons (bVar 0) saNil)))
  (sSeq (sDic1 3 (dVar 1) (dC (.bool true)))
  (sSeq (sOwn 4 (lCons (dVar 1) lNil))
  (sSeq (sWhile (tTru (bVar 4))
  (sSeq (sPop 5 4)
  (sFor (iSeq (bOf (dCall d_slides_of (saCons (bVar 0) (saCons (bVar 2) (saCons (bVar 5) saNil)))))) (gT [6, 7])
  (sSeq (sSet 8 (dCall d_moved (saCons (bVar 5) (saCons (bVar 6) (saCons (bVar 7) saNil)))))
  (sIf (tNin (dVar 8) (bVar 3))
  (sSeq (sDput 3 (dVar 8) (dC (.bool true)))
  (sApp 4 (dVar 8)))
  sNx)))) fuel)
  (sRet (dLst (lSorted (bVar 3))))))))) 9
def d_fewest : DF := runD (
  sSeq (sExpr (dCall d_look_two (saCons (bVar 0) (saCons (bVar 1) (saCons (bVar 2) saNil)))))
  (sSeq (sSet 3 (dCall d_near (saCons (bVar 0) saNil)))
  (sSeq (sDic1 4 (dVar 1) (dLst lNil))
  (sSeq (sSet 5 (dLst (lCons (dVar 1) lNil)))
  (sSeq (sWhile (tAnd (tTru (bVar 5)) (tNin (dVar 2) (bVar 4)))
  (sSeq (sOwn 6 lNil)
  (sSeq (sFor (iSeq (bOf (dVar 5))) (gN 7)
  (sFor (iSeq (bOf (dCall d_slides_of (saCons (bVar 0) (saCons (bVar 3) (saCons (bVar 7) saNil)))))) (gT [8, 9])
  (sSeq (sSet 10 (dCall d_moved (saCons (bVar 7) (saCons (bVar 8) (saCons (bVar 9) saNil)))))
  (sIf (tNin (dVar 10) (bVar 4))
  (sSeq (sDput 4 (dVar 10) (dBin opAdd (dDget 4 (dVar 7)) (dLst (lCons (dTup (lCons (dVar 8) (lCons (dVar 9) lNil))) lNil))))
  (sApp 6 (dVar 10)))
  sNx))))
  (sSet 5 (dLst (lComp (iSeq (bOf (dLst (lSorted (bOf (dLst (lComp (iSeq (bVar 6)) (gN 10) tYes (dTup (lCons (dDget 4 (dVar 10)) (lCons (dVar 10) lNil))) [10]))))))) (gT [11, 10]) tYes (dVar 10) [11, 10]))))) fuel)
  (sRet (dDgetN 4 (dVar 2)))))))) 12
def d_told : DF := runD (
  sSeq (sSet 3 (dCall d_fewest (saCons (bVar 0) (saCons (bVar 1) (saCons (bVar 2) saNil)))))
  (sRet (dIf (tNotN (bVar 3)) (dTup (lCons (dC (.str "way")) (lCons (dVar 3) lNil))) (dTup (lCons (dC (.str "room")) (lCons (dCall d_room (saCons (bVar 0) (saCons (bVar 1) saNil))) lNil)))))) 4
def d__law_cell : DF := runD (
  sSeq (sIf (tTru (bVar 0))
  (sRet (dIx (bVar 0) (dBin opMod (dVar 1) (dLen (bVar 0)))))
  sNx)
  (sRet (dC (.int 0)))) 2
def d__law_mix : DF := runD (
  sSeq (sSet 2 (dBin opMod (dBin opAdd (dCall d__law_cell (saCons (bVar 0) (saCons (bVar 1) saNil))) (dBin opMul (dC (.int 104729)) (dBin opAdd (dVar 1) (dC (.int 1))))) (dC (.int 4294967291))))
  (sSeq (sSet 2 (dBin opMod (dBin opMul (dVar 2) (dC (.int 48271))) (dC (.int 4294967279))))
  (sRet (dBin opMod (dBin opAdd (dBin opMul (dBin opDiv (dVar 2) (dC (.int 64))) (dC (.int 69621))) (dVar 2)) (dC (.int 4294967231)))))) 3
def d__law_web : DF := runD (
  sSeq (sSet 3 (dBin opAdd (dC (.int 1)) (dBin opMod (dCall d__law_mix (saCons (bVar 0) (saCons (bVar 1) saNil))) (dVar 2))))
  (sSeq (sSet 4 (dBin opMod (dCall d__law_mix (saCons (bVar 0) (saCons (bOf (dBin opAdd (dVar 1) (dC (.int 1)))) saNil))) (dC (.int 5))))
  (sSeq (sOwn 5 lNil)
  (sSeq (sFor (iR2 (dC (.int 1)) (dVar 3)) (gN 6)
  (sFor (iR1 (dVar 6)) (gN 7)
  (sSeq (sSet 8 (dBin opDiv (dCall d__law_mix (saCons (bVar 0) (saCons (bOf (dBin opAdd (dBin opAdd (dBin opAdd (dVar 1) (dC (.int 2))) (dBin opMul (dC (.int 9)) (dVar 7))) (dVar 6))) saNil))) (dC (.int 8))))
  (sSeq (sSet 9 (dAnd (dT (tCmp cLt (dVar 4) (dC (.int 2)))) (dT (tCmp cEq (dVar 7) (dBin opMod (dBin opDiv (dCall d__law_mix (saCons (bVar 0) (saCons (bOf (dBin opAdd (dBin opAdd (dVar 1) (dC (.int 90))) (dVar 6))) saNil))) (dC (.int 8))) (dVar 6))))))
  (sIf (tOr (tTru (bVar 9)) (tOr (tAnd (tCmp cEq (dVar 4) (dC (.int 2))) (tCmp cEq (dBin opAdd (dVar 7) (dC (.int 1))) (dVar 6))) (tAnd (tCmp cGt (dVar 4) (dC (.int 2))) (tCmp cLt (dBin opMod (dVar 8) (dC (.int 6))) (dBin opSub (dVar 4) (dC (.int 1)))))))
  (sApp 5 (dTup (lCons (dVar 7) (lCons (dVar 6) lNil))))
  sNx)))))
  (sSeq (sIf (tAnd (tCmp cEq (dVar 4) (dC (.int 2))) (tAnd (tCmp cGt (dVar 3) (dC (.int 2))) (tCmp cEq (dBin opMod (dCall d__law_mix (saCons (bVar 0) (saCons (bOf (dBin opAdd (dVar 1) (dC (.int 99)))) saNil))) (dC (.int 2))) (dC (.int 0)))))
  (sApp 5 (dTup (lCons (dC (.int 0)) (lCons (dBin opSub (dVar 3) (dC (.int 1))) lNil))))
  sNx)
  (sSeq (sFrz 5) (sRet (dTup (lCons (dVar 3) (lCons (dLst (lSSP (dVar 5))) lNil)))))))))) 10
def d__law_is_marks : DF := runD (
  sRet (dNot (dAny (dLst (lComp (iSeq (bOf (dIx (bVar 0) (dC (.int 1))))) (gT [2, 3]) tYes (dAnd (dT (tIn (dVar 2) (bVar 1))) (dT (tIn (dVar 3) (bVar 1)))) [2, 3]))))) 4
def d__law_marks : DF := runD (
  sSeq (sSet 4 (dTup lNil))
  (sSeq (sFor (iR1 (dBin opMod (dCall d__law_mix (saCons (bVar 0) (saCons (bVar 1) saNil))) (dBin opAdd (dVar 3) (dC (.int 1))))) (gN 5)
  (sSeq (sSet 6 (dLst (lComp (iR1 (dIx (bVar 2) (dC (.int 0)))) (gN 7) (tAnd (tNin (dVar 7) (bVar 4)) (tTru (bOf (dCall d__law_is_marks (saCons (bVar 2) (saCons (bOf (dBin opAdd (dVar 4) (dTup (lCons (dVar 7) lNil)))) saNil)))))) (dVar 7) [7])))
  (sIf (tCmp cNe (dVar 6) (dLst lNil))
  (sSet 4 (dTuple (dLst (lSorted (bOf (dBin opAdd (dVar 4) (dTup (lCons (dIx (bVar 6) (dBin opMod (dBin opDiv (dCall d__law_mix (saCons (bVar 0) (saCons (bOf (dBin opAdd (dBin opAdd (dVar 1) (dC (.int 1))) (dVar 5))) saNil))) (dC (.int 4))) (dLen (bVar 6)))) lNil))))))))
  sNx)))
  (sRet (dVar 4)))) 8
def d__law_moved : DF := runD (
  sRet (dTuple (dLst (lSorted (bOf (dBin opAdd (dLst (lComp (iSeq (bVar 0)) (gN 3) (tCmp cNe (dVar 3) (dVar 1)) (dVar 3) [3])) (dLst (lCons (dVar 2) lNil)))))))) 4
def d__law_slides : DF := runD (
  sSeq (sOwn 2 lNil)
  (sSeq (sFor (iSeq (bOf (dIx (bVar 0) (dC (.int 1))))) (gT [3, 4])
  (sFor (iSeq (bOf (dTup (lCons (dTup (lCons (dVar 3) (lCons (dVar 4) lNil))) (lCons (dTup (lCons (dVar 4) (lCons (dVar 3) lNil))) lNil))))) (gT [5, 6])
  (sIf (tAnd (tIn (dVar 5) (bVar 1)) (tAnd (tNin (dVar 6) (bVar 1)) (tTru (bOf (dCall d__law_is_marks (saCons (bVar 0) (saCons (bOf (dCall d__law_moved (saCons (bVar 1) (saCons (bVar 5) (saCons (bVar 6) saNil))))) saNil)))))))
  (sApp 2 (dTup (lCons (dVar 5) (lCons (dVar 6) lNil))))
  sNx)))
  (sRet (dLst (lSorted (bVar 2)))))) 7
def d__law_refusal : DF := runD (
  sSeq (sIf (tIsN (bVar 0))
  (sRet (dC (.str "ok")))
  sNx)
  (sSeq (sSet 1 (dLst (lCons (dIsK .marks (bVar 0)) (lCons (dIsK .slide (bVar 0)) (lCons (dIsK .text (bVar 0)) lNil)))))
  (sSeq (sSet 1 (dBin opAdd (dVar 1) (dLst (lCons (dIsK .web (bVar 0)) (lCons (dIsK .tree (bVar 0)) (lCons (dIsK .unlike (bVar 0)) lNil))))))
  (sSeq (sIf (tOr (tCmp cNe (dCnt (dVar 1) (dC (.bool true))) (dC (.int 1))) (tNot (tTru (bOf (dIsV (bVar 0))))))
  (sRet (dC (.str "wrong")))
  sNx)
  (sRet (dIx (bOf (dLst (lCons (dC (.str "marks")) (lCons (dC (.str "slide")) (lCons (dC (.str "text")) (lCons (dC (.str "web")) (lCons (dC (.str "tree")) (lCons (dC (.str "unlike")) lNil)))))))) (dIdx (dVar 1) (dC (.bool true))))))))) 2
end MS

namespace MS
open PySem L2 PyProof.Rows
def top (i : Nat) : Stmt := PySem.Challenge.pw_markslide_k30_whole_boards.main.body.getD i (.Pass ⟨0, 0, 0, 0⟩)
structure Tx (K : PySem.W.Frag) (mg : Str → Option Value) (ec : MS.XK → Addr) (CS : Addr) : Prop where
  k : KAll K mg ec CS
  c_MOST_SPOTS : ∃ t, mg "MOST_SPOTS" = some (.int 12 t)
abbrev s_look_web : Stmt := top 10
abbrev N_look_web : List Str := ["web", "many", "lines", "k"]
theorem sc_look_web : FnScope N_look_web ["web"] (defScope s_look_web) := ⟨rfl, rfl, rfl, by decide +kernel, rfl, by decide +kernel, by decide +kernel⟩
abbrev s_near : Stmt := top 11
abbrev N_near : List Str := ["web", "found", "one", "other", "spot", "some"]
theorem sc_near : FnScope N_near ["web"] (defScope s_near) := ⟨rfl, rfl, rfl, by decide +kernel, rfl, by decide +kernel, by decide +kernel⟩
abbrev s_is_marks : Stmt := top 12
abbrev N_is_marks : List Str := ["web", "marks", "one", "other", "spot"]
theorem sc_is_marks : FnScope N_is_marks ["web", "marks"] (defScope s_is_marks) := ⟨rfl, rfl, rfl, by decide +kernel, rfl, by decide +kernel, by decide +kernel⟩
abbrev s_look_marks : Stmt := top 13
abbrev N_look_marks : List Str := ["web", "marks"]
theorem sc_look_marks : FnScope N_look_marks ["web", "marks"] (defScope s_look_marks) := ⟨rfl, rfl, rfl, by decide +kernel, rfl, by decide +kernel, by decide +kernel⟩
abbrev s_moved : Stmt := top 15
abbrev N_moved : List Str := ["marks", "one", "other", "spot"]
theorem sc_moved : FnScope N_moved ["marks", "one", "other"] (defScope s_moved) := ⟨rfl, rfl, rfl, by decide +kernel, rfl, by decide +kernel, by decide +kernel⟩
abbrev s_slides_of : Stmt := top 16
abbrev N_slides_of : List Str := ["web", "beside", "marks", "found", "one", "other"]
theorem sc_slides_of : FnScope N_slides_of ["web", "beside", "marks"] (defScope s_slides_of) := ⟨rfl, rfl, rfl, by decide +kernel, rfl, by decide +kernel, by decide +kernel⟩
abbrev s_look_two : Stmt := top 17
abbrev N_look_two : List Str := ["web", "marks", "goal"]
theorem sc_look_two : FnScope N_look_two ["web", "marks", "goal"] (defScope s_look_two) := ⟨rfl, rfl, rfl, by decide +kernel, rfl, by decide +kernel, by decide +kernel⟩
abbrev s_room : Stmt := top 18
abbrev N_room : List Str := ["web", "marks", "beside", "found", "left", "here", "one", "other", "goal"]
theorem sc_room : FnScope N_room ["web", "marks"] (defScope s_room) := ⟨rfl, rfl, rfl, by decide +kernel, rfl, by decide +kernel, by decide +kernel⟩
abbrev s_fewest : Stmt := top 19
abbrev N_fewest : List Str := ["web", "marks", "goal", "beside", "rows", "level", "later", "here", "one", "other", "there", "row"]
theorem sc_fewest : FnScope N_fewest ["web", "marks", "goal"] (defScope s_fewest) := ⟨rfl, rfl, rfl, by decide +kernel, rfl, by decide +kernel, by decide +kernel⟩
abbrev s_told : Stmt := top 20
abbrev N_told : List Str := ["web", "marks", "goal", "found"]
theorem sc_told : FnScope N_told ["web", "marks", "goal"] (defScope s_told) := ⟨rfl, rfl, rfl, by decide +kernel, rfl, by decide +kernel, by decide +kernel⟩
abbrev s__law_cell : Stmt := top 24
abbrev N__law_cell : List Str := ["_law_script", "_law_k"]
theorem sc__law_cell : FnScope N__law_cell ["_law_script", "_law_k"] (defScope s__law_cell) := ⟨rfl, rfl, rfl, by decide +kernel, rfl, by decide +kernel, by decide +kernel⟩
abbrev s__law_mix : Stmt := top 25
abbrev N__law_mix : List Str := ["_law_script", "_law_k", "_law_number"]
theorem sc__law_mix : FnScope N__law_mix ["_law_script", "_law_k"] (defScope s__law_mix) := ⟨rfl, rfl, rfl, by decide +kernel, rfl, by decide +kernel, by decide +kernel⟩
abbrev s__law_web : Stmt := top 26
abbrev N__law_web : List Str := ["_law_script", "_law_k", "_law_places", "_law_many", "_law_way", "_law_lines", "_law_other", "_law_one", "_law_number", "_law_bush"]
theorem sc__law_web : FnScope N__law_web ["_law_script", "_law_k", "_law_places"] (defScope s__law_web) := ⟨rfl, rfl, rfl, by decide +kernel, rfl, by decide +kernel, by decide +kernel⟩
abbrev s__law_is_marks : Stmt := top 27
abbrev N__law_is_marks : List Str := ["_law_web_here", "_law_marks_here", "_law_one", "_law_other"]
theorem sc__law_is_marks : FnScope N__law_is_marks ["_law_web_here", "_law_marks_here"] (defScope s__law_is_marks) := ⟨rfl, rfl, rfl, by decide +kernel, rfl, by decide +kernel, by decide +kernel⟩
abbrev s__law_marks : Stmt := top 28
abbrev N__law_marks : List Str := ["_law_script", "_law_k", "_law_web_here", "_law_most", "_law_found", "_law_j", "_law_free", "_law_spot"]
theorem sc__law_marks : FnScope N__law_marks ["_law_script", "_law_k", "_law_web_here", "_law_most"] (defScope s__law_marks) := ⟨rfl, rfl, rfl, by decide +kernel, rfl, by decide +kernel, by decide +kernel⟩
abbrev s__law_moved : Stmt := top 29
abbrev N__law_moved : List Str := ["_law_marks_here", "_law_one", "_law_other", "_law_spot"]
theorem sc__law_moved : FnScope N__law_moved ["_law_marks_here", "_law_one", "_law_other"] (defScope s__law_moved) := ⟨rfl, rfl, rfl, by decide +kernel, rfl, by decide +kernel, by decide +kernel⟩
abbrev s__law_slides : Stmt := top 30
abbrev N__law_slides : List Str := ["_law_web_here", "_law_marks_here", "_law_found", "_law_one", "_law_other", "_law_first", "_law_second"]
theorem sc__law_slides : FnScope N__law_slides ["_law_web_here", "_law_marks_here"] (defScope s__law_slides) := ⟨rfl, rfl, rfl, by decide +kernel, rfl, by decide +kernel, by decide +kernel⟩
abbrev s__law_refusal : Stmt := top 31
abbrev N__law_refusal : List Str := ["_law_kept", "_law_kinds"]
theorem sc__law_refusal : FnScope N__law_refusal ["_law_kept"] (defScope s__law_refusal) := ⟨rfl, rfl, rfl, by decide +kernel, rfl, by decide +kernel, by decide +kernel⟩
section
variable {P : Program} {w : World} {K : PySem.W.Frag} {mg : Str → Option Value} {base : Heap} {ec : MS.XK → Addr} {CS : Addr}
theorem ok_look_web {f : Addr} {fd : FuncData} (F : L2.Fun K "look_web" "look_web" s_look_web f fd) (hm : mg "look_web" = some (.ref f)) (T : Txs mg) (Z : Tx K mg ec CS) : Fn P w K mg base ec "look_web" ["web"] 1 d_look_web :=
  have nd := sc_look_web.nd
  fnD F hm (F.binds fun _ _ _ _ _ _ us hl => match us, hl with | [_], _ => rfl) (okD F sc_look_web (by decide) fun cdv A outer s H B E hr tk pw =>
  xss_cons (xs_tg (xg_t rfl (xgs_cons 1 nd (xgs_cons 2 nd xgs_nil))) (xe_var 0))
  (xss_cons (xs_if (xt_not (xt_ch cm_le cm_le xe_int (xe_var 1) (xe_globI Z.c_MOST_SPOTS)))
  (xss_one (xs_raise (Z.k.e .web)))
  xss_nil)
  (xss_one (xs_for (xi_rng1 T (xe_len T (xb_var 2))) (xg_n 3 nd)
  (xss_one (xs_if (xt_w (xw_or (xt_cmp (cm_ne hr) (xe_len T (xb_of (xe_ix (xb_var 2) (xe_var 3)))) xe_int) (xw_or (xt_not (xt_ch3 cm_le (cm_lt hr) (cm_lt hr) xe_int (xe_ix (xb_of (xe_ix (xb_var 2) (xe_var 3))) xe_int) (xe_ix (xb_of (xe_ix (xb_var 2) (xe_var 3))) xe_int) (xe_var 1))) (xw_or1 (xt_w (xw_and (xt_cmp cm_gt (xe_var 3) xe_int) (xw_and1 (xt_not (xt_cmp (cm_lt hr) (xe_ix (xb_var 2) (xe_sub (xe_var 3) xe_int)) (xe_ix (xb_var 2) (xe_var 3)))))))))))
  (xss_one (xs_raise (Z.k.e .web)))
  xss_nil))))))
theorem ok_near {f : Addr} {fd : FuncData} (F : L2.Fun K "near" "near" s_near f fd) (hm : mg "near" = some (.ref f)) (T : Txs mg) (Z : Tx K mg ec CS) : Fn P w K mg base ec "near" ["web"] 1 d_near :=
  have nd := sc_near.nd
  fnD F hm (F.binds fun _ _ _ _ _ _ us hl => match us, hl with | [_], _ => rfl) (okD F sc_near (by decide) fun cdv A outer s H B E hr tk pw =>
  xss_near 0 1 2 3 (ps_setLc (own := [("spot", 4)]) (wi := tIb _ _ _) rfl nd rfl rfl (sw_true rfl rfl rfl (by decide +kernel)) (xib_rng1 T (xe_ix (xb_var 0) xe_int)) (blkOk_by (N := N_near) (sc := (defScope s_near)) (by decide +kernel)) (fun _ _ _ _ _ => (xg_n 4 nd).pg) (fun _ _ _ _ _ => xts_nil.run) (fun _ _ _ _ _ => xl_lst xa_nil)) (tok_n 4) (sub_of rfl) (fun _ _ => ⟨_, rfl⟩) (ps_for pw rfl (xi_seq (xe_ix (xb_var 0) xe_int)) (xg_t rfl (xgs_cons 2 nd (xgs_cons 3 nd xgs_nil))).pg (pss_cons (ps_napp 1 2 3) (pss_one (ps_napp 1 3 2)))) (tok_t (toks_cons 2 (toks_cons 3 toks_nil)))
  (xss_one (xs_ret (xe_lst (xl_comp (own := [("some", 5)]) rfl nd (xib_seq (xb_var 1)) (blkOk_by (N := N_near) (sc := (defScope s_near)) (by decide +kernel)) (fun _ _ _ _ _ => xg_n 5 nd) (fun _ _ _ _ _ => xts_nil) (fun _ _ _ _ _ => xe_lst (xl_sorted T hr (xb_var 5))))))) (by decide) (by decide) (by decide) (by decide) (by decide) (by decide))
theorem ok_is_marks {f : Addr} {fd : FuncData} (F : L2.Fun K "is_marks" "is_marks" s_is_marks f fd) (hm : mg "is_marks" = some (.ref f)) (T : Txs mg) (Z : Tx K mg ec CS) : Fn P w K mg base ec "is_marks" ["web", "marks"] 1 d_is_marks :=
  have nd := sc_is_marks.nd
  fnD F hm (F.binds fun _ _ _ _ _ _ us hl => match us, hl with | [_, _], _ => rfl) (okD F sc_is_marks (by decide) fun cdv A outer s H B E hr tk pw =>
  xss_cons (xs_if (xt_w (xw_or (xt_cmp (cm_ne hr) (xe_lst (xl_list T (xb_var 1))) (xe_lst (xl_ssi T (xe_var 1)))) (xw_or1 (xt_not (xt_tru (xb_of (xe_all T (xe_lst (xl_comp (own := [("spot", 4)]) rfl nd (xib_seq (xb_var 1)) (blkOk_by (N := N_is_marks) (sc := (defScope s_is_marks)) (by decide +kernel)) (fun _ _ _ _ _ => xg_n 4 nd) (fun _ _ _ _ _ => xts_nil) (fun _ _ _ _ _ => xe_ch cm_le (cm_lt hr) xe_int (xe_var 4) (xe_ix (xb_var 0) xe_int)))))))))))
  (xss_one (xs_ret xe_bl))
  xss_nil)
  (xss_one (xs_ret (xe_not (xe_any T (xe_lst (xl_comp (own := [("one", 2), ("other", 3)]) (gt := gTup K 2 (gCons (gName 2) (gCons (gName 3) gNil))) rfl nd (xib_seq (xb_of (xe_ix (xb_var 0) xe_int))) (blkOk_by (N := N_is_marks) (sc := (defScope s_is_marks)) (by decide +kernel)) (fun _ _ _ _ _ => xg_t rfl (xgs_cons 2 nd (xgs_cons 3 nd xgs_nil))) (fun _ _ _ _ _ => xts_nil) (fun _ _ _ _ _ => xe_and (xe_cin hr (xe_var 2) (xb_var 1) rfl) (xe_one (xe_cin hr (xe_var 3) (xb_var 1) rfl))))))))))
theorem ok_look_marks {f : Addr} {fd : FuncData} (F : L2.Fun K "look_marks" "look_marks" s_look_marks f fd) (hm : mg "look_marks" = some (.ref f)) (T : Txs mg) (Z : Tx K mg ec CS) (F_look_web : Fn P w K mg base ec "look_web" ["web"] 1 d_look_web) (F_is_marks : Fn P w K mg base ec "is_marks" ["web", "marks"] 1 d_is_marks) : Fn P w K mg base ec "look_marks" ["web", "marks"] 2 d_look_marks :=
  have nd := sc_look_marks.nd
  fnD F hm (F.binds fun _ _ _ _ _ _ us hl => match us, hl with | [_, _], _ => rfl) (okD F sc_look_marks (by decide) fun cdv A outer s H B E hr tk pw =>
  xss_cons (xs_expr (xe_call F_look_web (hr.mono (by decide)) (xs_cons (xb_var 0) xs_nil) (hn := (sa_len sa_len0))))
  (xss_one (xs_if (xt_not (xt_tru (xb_of (xe_call F_is_marks (hr.mono (by decide)) (xs_cons (xb_var 0) (xs_cons (xb_var 1) xs_nil)) (hn := (sa_len (sa_len sa_len0)))))))
  (xss_one (xs_raise (Z.k.e .marks)))
  xss_nil)))
theorem ok_moved {f : Addr} {fd : FuncData} (F : L2.Fun K "moved" "moved" s_moved f fd) (hm : mg "moved" = some (.ref f)) (T : Txs mg) (Z : Tx K mg ec CS) : Fn P w K mg base ec "moved" ["marks", "one", "other"] 1 d_moved :=
  have nd := sc_moved.nd
  fnD F hm (F.binds fun _ _ _ _ _ _ us hl => match us, hl with | [_, _, _], _ => rfl) (okD F sc_moved (by decide) fun cdv A outer s H B E hr tk pw =>
  xss_one (xs_ret (xe_tuple T (xe_lst (xl_sorted T hr (xb_of (xe_add (xe_lst (xl_comp (own := [("spot", 3)]) rfl nd (xib_seq (xb_var 0)) (blkOk_by (N := N_moved) (sc := (defScope s_moved)) (by decide +kernel)) (fun _ _ _ _ _ => xg_n 3 nd) (fun _ _ _ _ _ => xts_one (xt_cmp (cm_ne hr) (xe_var 3) (xe_var 1))) (fun _ _ _ _ _ => xe_var 3))) (xe_lst (xl_lst (xa_cons (xe_var 2) xa_nil))))))))))
theorem ok_slides_of {f : Addr} {fd : FuncData} (F : L2.Fun K "slides_of" "slides_of" s_slides_of f fd) (hm : mg "slides_of" = some (.ref f)) (T : Txs mg) (Z : Tx K mg ec CS) (F_is_marks : Fn P w K mg base ec "is_marks" ["web", "marks"] 1 d_is_marks) (F_moved : Fn P w K mg base ec "moved" ["marks", "one", "other"] 1 d_moved) : Fn P w K mg base ec "slides_of" ["web", "beside", "marks"] 2 d_slides_of :=
  have nd := sc_slides_of.nd
  fnD F hm (F.binds fun _ _ _ _ _ _ us hl => match us, hl with | [_, _, _], _ => rfl) (okD F sc_slides_of (by decide) fun cdv A outer s H B E hr tk pw =>
  xss_cons (xs_own 3 nd (xl_lst xa_nil))
  (xss_cons (xs_for (xi_seq (xe_var 2)) (xg_n 4 nd)
  (xss_one (xs_for (xi_seq (xe_ix (xb_var 1) (xe_var 4))) (xg_n 5 nd)
  (xss_one (xs_if (xt_w (xw_and (xt_cnin hr (xe_var 5) (xb_var 2) rfl) (xw_and1 (xt_tru (xb_of (xe_call F_is_marks (hr.mono (by decide)) (xs_cons (xb_var 0) (xs_cons (xb_of (xe_call F_moved (hr.mono (by decide)) (xs_cons (xb_var 2) (xs_cons (xb_var 4) (xs_cons (xb_var 5) xs_nil))) (hn := (sa_len (sa_len (sa_len sa_len0)))))) xs_nil)) (hn := (sa_len (sa_len sa_len0)))))))))
  (xss_one (xs_app 3 (xe_tup (xa_cons (xe_var 4) (xa_cons (xe_var 5) xa_nil)))))
  xss_nil)))))
  (xss_frz 3 (xss_one (xs_ret (xe_var 3))))))
theorem ok_look_two {f : Addr} {fd : FuncData} (F : L2.Fun K "look_two" "look_two" s_look_two f fd) (hm : mg "look_two" = some (.ref f)) (T : Txs mg) (Z : Tx K mg ec CS) (F_look_marks : Fn P w K mg base ec "look_marks" ["web", "marks"] 2 d_look_marks) : Fn P w K mg base ec "look_two" ["web", "marks", "goal"] 3 d_look_two :=
  have nd := sc_look_two.nd
  fnD F hm (F.binds fun _ _ _ _ _ _ us hl => match us, hl with | [_, _, _], _ => rfl) (okD F sc_look_two (by decide) fun cdv A outer s H B E hr tk pw =>
  xss_cons (xs_expr (xe_call F_look_marks (hr.mono (by decide)) (xs_cons (xb_var 0) (xs_cons (xb_var 1) xs_nil)) (hn := (sa_len (sa_len sa_len0)))))
  (xss_cons (xs_expr (xe_call F_look_marks (hr.mono (by decide)) (xs_cons (xb_var 0) (xs_cons (xb_var 2) xs_nil)) (hn := (sa_len (sa_len sa_len0)))))
  (xss_one (xs_if (xt_cmp (cm_ne hr) (xe_len T (xb_var 1)) (xe_len T (xb_var 2)))
  (xss_one (xs_raise (Z.k.e .unlike)))
  xss_nil))))
theorem ok_room {f : Addr} {fd : FuncData} (F : L2.Fun K "room" "room" s_room f fd) (hm : mg "room" = some (.ref f)) (T : Txs mg) (Z : Tx K mg ec CS) (F_look_marks : Fn P w K mg base ec "look_marks" ["web", "marks"] 2 d_look_marks) (F_near : Fn P w K mg base ec "near" ["web"] 1 d_near) (F_slides_of : Fn P w K mg base ec "slides_of" ["web", "beside", "marks"] 2 d_slides_of) (F_moved : Fn P w K mg base ec "moved" ["marks", "one", "other"] 1 d_moved) : Fn P w K mg base ec "room" ["web", "marks"] 3 d_room :=
  have nd := sc_room.nd
  fnD F hm (F.binds fun _ _ _ _ _ _ us hl => match us, hl with | [_, _], _ => rfl) (okD F sc_room (by decide) fun cdv A outer s H B E hr tk pw =>
  xss_cons (xs_expr (xe_call F_look_marks (hr.mono (by decide)) (xs_cons (xb_var 0) (xs_cons (xb_var 1) xs_nil)) (hn := (sa_len (sa_len sa_len0)))))
  (xss_cons (xs_set 2 nd (xe_call F_near (hr.mono (by decide)) (xs_cons (xb_var 0) xs_nil) (hn := (sa_len sa_len0))))
  (xss_cons (xs_dic1 3 nd hr (xe_var 1) xe_bl)
  (xss_cons (xs_own 4 nd (xl_lst (xa_cons (xe_var 1) xa_nil)))
  (xss_cons (xs_while (xt_tru (xb_var 4))
  (xss_cons (xs_pop 5 4 nd)
  (xss_one (xs_for (xi_seq (xe_call F_slides_of (hr.mono (by decide)) (xs_cons (xb_var 0) (xs_cons (xb_var 2) (xs_cons (xb_var 5) xs_nil))) (hn := (sa_len (sa_len (sa_len sa_len0)))))) (xg_t rfl (xgs_cons 6 nd (xgs_cons 7 nd xgs_nil)))
  (xss_cons (xs_set 8 nd (xe_call F_moved (hr.mono (by decide)) (xs_cons (xb_var 5) (xs_cons (xb_var 6) (xs_cons (xb_var 7) xs_nil))) (hn := (sa_len (sa_len (sa_len sa_len0))))))
  (xss_one (xs_if (xt_cnin hr (xe_var 8) (xb_var 3) rfl)
  (xss_cons (xs_dput 3 hr (xe_var 8) xe_bl)
  (xss_one (xs_app 4 (xe_var 8))))
  xss_nil)))))))
  (xss_one (xs_ret (xe_lst (xl_sorted T hr (xb_var 3))))))))))
theorem ok_fewest {f : Addr} {fd : FuncData} (F : L2.Fun K "fewest" "fewest" s_fewest f fd) (hm : mg "fewest" = some (.ref f)) (T : Txs mg) (Z : Tx K mg ec CS) (F_look_two : Fn P w K mg base ec "look_two" ["web", "marks", "goal"] 3 d_look_two) (F_near : Fn P w K mg base ec "near" ["web"] 1 d_near) (F_slides_of : Fn P w K mg base ec "slides_of" ["web", "beside", "marks"] 2 d_slides_of) (F_moved : Fn P w K mg base ec "moved" ["marks", "one", "other"] 1 d_moved) : Fn P w K mg base ec "fewest" ["web", "marks", "goal"] 4 d_fewest :=
  have nd := sc_fewest.nd
  fnD F hm (F.binds fun _ _ _ _ _ _ us hl => match us, hl with | [_, _, _], _ => rfl) (okD F sc_fewest (by decide) fun cdv A outer s H B E hr tk pw =>
  xss_cons (xs_expr (xe_call F_look_two (hr.mono (by decide)) (xs_cons (xb_var 0) (xs_cons (xb_var 1) (xs_cons (xb_var 2) xs_nil))) (hn := (sa_len (sa_len (sa_len sa_len0))))))
  (xss_cons (xs_set 3 nd (xe_call F_near (hr.mono (by decide)) (xs_cons (xb_var 0) xs_nil) (hn := (sa_len sa_len0))))
  (xss_cons (xs_dic1 4 nd hr (xe_var 1) (xe_lst (xl_lst xa_nil)))
  (xss_cons (xs_set 5 nd (xe_lst (xl_lst (xa_cons (xe_var 1) xa_nil))))
  (xss_cons (xs_while (xt_w (xw_and (xt_tru (xb_var 5)) (xw_and1 (xt_cnin hr (xe_var 2) (xb_var 4) rfl))))
  (xss_cons (xs_own 6 nd (xl_lst xa_nil))
  (xss_cons (xs_for (xi_seq (xe_var 5)) (xg_n 7 nd)
  (xss_one (xs_for (xi_seq (xe_call F_slides_of (hr.mono (by decide)) (xs_cons (xb_var 0) (xs_cons (xb_var 3) (xs_cons (xb_var 7) xs_nil))) (hn := (sa_len (sa_len (sa_len sa_len0)))))) (xg_t rfl (xgs_cons 8 nd (xgs_cons 9 nd xgs_nil)))
  (xss_cons (xs_set 10 nd (xe_call F_moved (hr.mono (by decide)) (xs_cons (xb_var 7) (xs_cons (xb_var 8) (xs_cons (xb_var 9) xs_nil))) (hn := (sa_len (sa_len (sa_len sa_len0))))))
  (xss_one (xs_if (xt_cnin hr (xe_var 10) (xb_var 4) rfl)
  (xss_cons (xs_dput 4 hr (xe_var 10) (xe_add (xe_dget 4 hr (xe_var 7)) (xe_lst (xl_lst (xa_cons (xe_tup (xa_cons (xe_var 8) (xa_cons (xe_var 9) xa_nil))) xa_nil)))))
  (xss_one (xs_app 6 (xe_var 10))))
  xss_nil))))))
  (xss_one (xs_setlc 5 (own := [("row", 11), ("there", 10)]) (gt := gTup K 2 (gCons (gName 11) (gCons (gName 10) gNil))) rfl nd rfl rfl (sw_true rfl rfl rfl (by decide +kernel)) (xib_seq (xb_of (xe_lst (xl_sorted T hr (xb_of (xe_lst (xl_comp (own := [("there", 10)]) rfl nd (xib_seq (xb_var 6)) (blkOk_by (N := N_fewest) (sc := (defScope s_fewest)) (by decide +kernel)) (fun _ _ _ _ _ => xg_n 10 nd) (fun _ _ _ _ _ => xts_nil) (fun _ _ _ _ _ => xe_tup (xa_cons (xe_dget 4 hr (xe_var 10)) (xa_cons (xe_var 10) xa_nil)))))))))) (blkOk_by (N := N_fewest) (sc := (defScope s_fewest)) (by decide +kernel)) (fun _ _ _ _ _ => xg_t rfl (xgs_cons 11 nd (xgs_cons 10 nd xgs_nil))) (fun _ _ _ _ _ => xts_nil) (fun _ _ _ _ _ => xe_var 10))))))
  (xss_one (xs_ret (xe_dgetn 4 hr (xe_var 2)))))))))
theorem ok_told {f : Addr} {fd : FuncData} (F : L2.Fun K "told" "told" s_told f fd) (hm : mg "told" = some (.ref f)) (T : Txs mg) (Z : Tx K mg ec CS) (F_fewest : Fn P w K mg base ec "fewest" ["web", "marks", "goal"] 4 d_fewest) (F_room : Fn P w K mg base ec "room" ["web", "marks"] 3 d_room) : Fn P w K mg base ec "told" ["web", "marks", "goal"] 5 d_told :=
  have nd := sc_told.nd
  fnD F hm (F.binds fun _ _ _ _ _ _ us hl => match us, hl with | [_, _, _], _ => rfl) (okD F sc_told (by decide) fun cdv A outer s H B E hr tk pw =>
  xss_cons (xs_set 3 nd (xe_call F_fewest (hr.mono (by decide)) (xs_cons (xb_var 0) (xs_cons (xb_var 1) (xs_cons (xb_var 2) xs_nil))) (hn := (sa_len (sa_len (sa_len sa_len0))))))
  (xss_one (xs_ret (xe_if (xt_cnotn (xb_var 3)) (xe_tup (xa_cons xe_str (xa_cons (xe_var 3) xa_nil))) (xe_tup (xa_cons xe_str (xa_cons (xe_call F_room (hr.mono (by decide)) (xs_cons (xb_var 0) (xs_cons (xb_var 1) xs_nil)) (hn := (sa_len (sa_len sa_len0)))) xa_nil)))))))
theorem ok__law_cell {f : Addr} {fd : FuncData} (F : L2.Fun K "_law_cell" "_law_cell" s__law_cell f fd) (hm : mg "_law_cell" = some (.ref f)) (T : Txs mg) (Z : Tx K mg ec CS) : Fn P w K mg base ec "_law_cell" ["_law_script", "_law_k"] 1 d__law_cell :=
  have nd := sc__law_cell.nd
  fnD F hm (F.binds fun _ _ _ _ _ _ us hl => match us, hl with | [_, _], _ => rfl) (okD F sc__law_cell (by decide) fun cdv A outer s H B E hr tk pw =>
  xss_cons (xs_if (xt_tru (xb_var 0))
  (xss_one (xs_ret (xe_ix (xb_var 0) (xe_mod (xe_var 1) (xe_len T (xb_var 0))))))
  xss_nil)
  (xss_one (xs_ret xe_int)))
theorem ok__law_mix {f : Addr} {fd : FuncData} (F : L2.Fun K "_law_mix" "_law_mix" s__law_mix f fd) (hm : mg "_law_mix" = some (.ref f)) (T : Txs mg) (Z : Tx K mg ec CS) (F__law_cell : Fn P w K mg base ec "_law_cell" ["_law_script", "_law_k"] 1 d__law_cell) : Fn P w K mg base ec "_law_mix" ["_law_script", "_law_k"] 2 d__law_mix :=
  have nd := sc__law_mix.nd
  fnD F hm (F.binds fun _ _ _ _ _ _ us hl => match us, hl with | [_, _], _ => rfl) (okD F sc__law_mix (by decide) fun cdv A outer s H B E hr tk pw =>
  xss_cons (xs_set 2 nd (xe_mod (xe_add (xe_call F__law_cell (hr.mono (by decide)) (xs_cons (xb_var 0) (xs_cons (xb_var 1) xs_nil)) (hn := (sa_len (sa_len sa_len0)))) (xe_mul xe_int (xe_add (xe_var 1) xe_int))) xe_int))
  (xss_cons (xs_set 2 nd (xe_mod (xe_mul (xe_var 2) xe_int) xe_int))
  (xss_one (xs_ret (xe_mod (xe_add (xe_mul (xe_div (xe_var 2) xe_int) xe_int) (xe_var 2)) xe_int)))))
theorem ok__law_web {f : Addr} {fd : FuncData} (F : L2.Fun K "_law_web" "_law_web" s__law_web f fd) (hm : mg "_law_web" = some (.ref f)) (T : Txs mg) (Z : Tx K mg ec CS) (F__law_mix : Fn P w K mg base ec "_law_mix" ["_law_script", "_law_k"] 2 d__law_mix) : Fn P w K mg base ec "_law_web" ["_law_script", "_law_k", "_law_places"] 3 d__law_web :=
  have nd := sc__law_web.nd
  fnD F hm (F.binds fun _ _ _ _ _ _ us hl => match us, hl with | [_, _, _], _ => rfl) (okD F sc__law_web (by decide) fun cdv A outer s H B E hr tk pw =>
  xss_cons (xs_set 3 nd (xe_add xe_int (xe_mod (xe_call F__law_mix (hr.mono (by decide)) (xs_cons (xb_var 0) (xs_cons (xb_var 1) xs_nil)) (hn := (sa_len (sa_len sa_len0)))) (xe_var 2))))
  (xss_cons (xs_set 4 nd (xe_mod (xe_call F__law_mix (hr.mono (by decide)) (xs_cons (xb_var 0) (xs_cons (xb_of (xe_add (xe_var 1) xe_int)) xs_nil)) (hn := (sa_len (sa_len sa_len0)))) xe_int))
  (xss_cons (xs_own 5 nd (xl_lst xa_nil))
  (xss_cons (xs_for (xi_rng2 T xe_int (xe_var 3)) (xg_n 6 nd)
  (xss_one (xs_for (xi_rng1 T (xe_var 6)) (xg_n 7 nd)
  (xss_cons (xs_set 8 nd (xe_div (xe_call F__law_mix (hr.mono (by decide)) (xs_cons (xb_var 0) (xs_cons (xb_of (xe_add (xe_add (xe_add (xe_var 1) xe_int) (xe_mul xe_int (xe_var 7))) (xe_var 6))) xs_nil)) (hn := (sa_len (sa_len sa_len0)))) xe_int))
  (xss_cons (xs_set 9 nd (xe_and (xe_cmp (cm_lt hr) (xe_var 4) xe_int) (xe_one (xe_cmp (cm_eq hr) (xe_var 7) (xe_mod (xe_div (xe_call F__law_mix (hr.mono (by decide)) (xs_cons (xb_var 0) (xs_cons (xb_of (xe_add (xe_add (xe_var 1) xe_int) (xe_var 6))) xs_nil)) (hn := (sa_len (sa_len sa_len0)))) xe_int) (xe_var 6))))))
  (xss_one (xs_if (xt_w (xw_or (xt_tru (xb_var 9)) (xw_or (xt_w (xw_and (xt_cmp (cm_eq hr) (xe_var 4) xe_int) (xw_and1 (xt_cmp (cm_eq hr) (xe_add (xe_var 7) xe_int) (xe_var 6))))) (xw_or1 (xt_w (xw_and (xt_cmp cm_gt (xe_var 4) xe_int) (xw_and1 (xt_cmp (cm_lt hr) (xe_mod (xe_var 8) xe_int) (xe_sub (xe_var 4) xe_int)))))))))
  (xss_one (xs_app 5 (xe_tup (xa_cons (xe_var 7) (xa_cons (xe_var 6) xa_nil)))))
  xss_nil)))))))
  (xss_cons (xs_if (xt_w (xw_and (xt_cmp (cm_eq hr) (xe_var 4) xe_int) (xw_and (xt_cmp cm_gt (xe_var 3) xe_int) (xw_and1 (xt_cmp (cm_eq hr) (xe_mod (xe_call F__law_mix (hr.mono (by decide)) (xs_cons (xb_var 0) (xs_cons (xb_of (xe_add (xe_var 1) xe_int)) xs_nil)) (hn := (sa_len (sa_len sa_len0)))) xe_int) xe_int)))))
  (xss_one (xs_app 5 (xe_tup (xa_cons xe_int (xa_cons (xe_sub (xe_var 3) xe_int) xa_nil)))))
  xss_nil)
  (xss_frz 5 (xss_one (xs_ret (xe_tup (xa_cons (xe_var 3) (xa_cons (xe_lst (xl_ssp T hr (xe_var 5))) xa_nil)))))))))))
theorem ok__law_is_marks {f : Addr} {fd : FuncData} (F : L2.Fun K "_law_is_marks" "_law_is_marks" s__law_is_marks f fd) (hm : mg "_law_is_marks" = some (.ref f)) (T : Txs mg) (Z : Tx K mg ec CS) : Fn P w K mg base ec "_law_is_marks" ["_law_web_here", "_law_marks_here"] 1 d__law_is_marks :=
  have nd := sc__law_is_marks.nd
  fnD F hm (F.binds fun _ _ _ _ _ _ us hl => match us, hl with | [_, _], _ => rfl) (okD F sc__law_is_marks (by decide) fun cdv A outer s H B E hr tk pw =>
  xss_one (xs_ret (xe_not (xe_any T (xe_lst (xl_comp (own := [("_law_one", 2), ("_law_other", 3)]) (gt := gTup K 2 (gCons (gName 2) (gCons (gName 3) gNil))) rfl nd (xib_seq (xb_of (xe_ix (xb_var 0) xe_int))) (blkOk_by (N := N__law_is_marks) (sc := (defScope s__law_is_marks)) (by decide +kernel)) (fun _ _ _ _ _ => xg_t rfl (xgs_cons 2 nd (xgs_cons 3 nd xgs_nil))) (fun _ _ _ _ _ => xts_nil) (fun _ _ _ _ _ => xe_and (xe_cin hr (xe_var 2) (xb_var 1) rfl) (xe_one (xe_cin hr (xe_var 3) (xb_var 1) rfl)))))))))
theorem ok__law_marks {f : Addr} {fd : FuncData} (F : L2.Fun K "_law_marks" "_law_marks" s__law_marks f fd) (hm : mg "_law_marks" = some (.ref f)) (T : Txs mg) (Z : Tx K mg ec CS) (F__law_mix : Fn P w K mg base ec "_law_mix" ["_law_script", "_law_k"] 2 d__law_mix) (F__law_is_marks : Fn P w K mg base ec "_law_is_marks" ["_law_web_here", "_law_marks_here"] 1 d__law_is_marks) : Fn P w K mg base ec "_law_marks" ["_law_script", "_law_k", "_law_web_here", "_law_most"] 3 d__law_marks :=
  have nd := sc__law_marks.nd
  fnD F hm (F.binds fun _ _ _ _ _ _ us hl => match us, hl with | [_, _, _, _], _ => rfl) (okD F sc__law_marks (by decide) fun cdv A outer s H B E hr tk pw =>
  xss_cons (xs_set 4 nd (xe_tup xa_nil))
  (xss_cons (xs_for (xi_rng1 T (xe_mod (xe_call F__law_mix (hr.mono (by decide)) (xs_cons (xb_var 0) (xs_cons (xb_var 1) xs_nil)) (hn := (sa_len (sa_len sa_len0)))) (xe_add (xe_var 3) xe_int))) (xg_n 5 nd)
  (xss_cons (xs_setlc 6 (own := [("_law_spot", 7)]) rfl nd rfl rfl (sw_true rfl rfl rfl (by decide +kernel)) (xib_rng1 T (xe_ix (xb_var 2) xe_int)) (blkOk_by (N := N__law_marks) (sc := (defScope s__law_marks)) (by decide +kernel)) (fun _ _ _ _ _ => xg_n 7 nd) (fun _ _ _ _ _ => xts_one (xt_w (xw_and (xt_cnin hr (xe_var 7) (xb_var 4) rfl) (xw_and1 (xt_tru (xb_of (xe_call F__law_is_marks (hr.mono (by decide)) (xs_cons (xb_var 2) (xs_cons (xb_of (xe_add (xe_var 4) (xe_tup (xa_cons (xe_var 7) xa_nil)))) xs_nil)) (hn := (sa_len (sa_len sa_len0)))))))))) (fun _ _ _ _ _ => xe_var 7))
  (xss_one (xs_if (xt_cmp (cm_ne hr) (xe_var 6) (xe_lst (xl_lst xa_nil)))
  (xss_one (xs_set 4 nd (xe_tuple T (xe_lst (xl_sorted T hr (xb_of (xe_add (xe_var 4) (xe_tup (xa_cons (xe_ix (xb_var 6) (xe_mod (xe_div (xe_call F__law_mix (hr.mono (by decide)) (xs_cons (xb_var 0) (xs_cons (xb_of (xe_add (xe_add (xe_var 1) xe_int) (xe_var 5))) xs_nil)) (hn := (sa_len (sa_len sa_len0)))) xe_int) (xe_len T (xb_var 6)))) xa_nil)))))))))
  xss_nil))))
  (xss_one (xs_ret (xe_var 4)))))
theorem ok__law_moved {f : Addr} {fd : FuncData} (F : L2.Fun K "_law_moved" "_law_moved" s__law_moved f fd) (hm : mg "_law_moved" = some (.ref f)) (T : Txs mg) (Z : Tx K mg ec CS) : Fn P w K mg base ec "_law_moved" ["_law_marks_here", "_law_one", "_law_other"] 1 d__law_moved :=
  have nd := sc__law_moved.nd
  fnD F hm (F.binds fun _ _ _ _ _ _ us hl => match us, hl with | [_, _, _], _ => rfl) (okD F sc__law_moved (by decide) fun cdv A outer s H B E hr tk pw =>
  xss_one (xs_ret (xe_tuple T (xe_lst (xl_sorted T hr (xb_of (xe_add (xe_lst (xl_comp (own := [("_law_spot", 3)]) rfl nd (xib_seq (xb_var 0)) (blkOk_by (N := N__law_moved) (sc := (defScope s__law_moved)) (by decide +kernel)) (fun _ _ _ _ _ => xg_n 3 nd) (fun _ _ _ _ _ => xts_one (xt_cmp (cm_ne hr) (xe_var 3) (xe_var 1))) (fun _ _ _ _ _ => xe_var 3))) (xe_lst (xl_lst (xa_cons (xe_var 2) xa_nil))))))))))
theorem ok__law_slides {f : Addr} {fd : FuncData} (F : L2.Fun K "_law_slides" "_law_slides" s__law_slides f fd) (hm : mg "_law_slides" = some (.ref f)) (T : Txs mg) (Z : Tx K mg ec CS) (F__law_is_marks : Fn P w K mg base ec "_law_is_marks" ["_law_web_here", "_law_marks_here"] 1 d__law_is_marks) (F__law_moved : Fn P w K mg base ec "_law_moved" ["_law_marks_here", "_law_one", "_law_other"] 1 d__law_moved) : Fn P w K mg base ec "_law_slides" ["_law_web_here", "_law_marks_here"] 2 d__law_slides :=
  have nd := sc__law_slides.nd
  fnD F hm (F.binds fun _ _ _ _ _ _ us hl => match us, hl with | [_, _], _ => rfl) (okD F sc__law_slides (by decide) fun cdv A outer s H B E hr tk pw =>
  xss_cons (xs_own 2 nd (xl_lst xa_nil))
  (xss_cons (xs_for (xi_seq (xe_ix (xb_var 0) xe_int)) (xg_t rfl (xgs_cons 3 nd (xgs_cons 4 nd xgs_nil)))
  (xss_one (xs_for (xi_seq (xe_tup (xa_cons (xe_tup (xa_cons (xe_var 3) (xa_cons (xe_var 4) xa_nil))) (xa_cons (xe_tup (xa_cons (xe_var 4) (xa_cons (xe_var 3) xa_nil))) xa_nil)))) (xg_t rfl (xgs_cons 5 nd (xgs_cons 6 nd xgs_nil)))
  (xss_one (xs_if (xt_w (xw_and (xt_cin hr (xe_var 5) (xb_var 1) rfl) (xw_and (xt_cnin hr (xe_var 6) (xb_var 1) rfl) (xw_and1 (xt_tru (xb_of (xe_call F__law_is_marks (hr.mono (by decide)) (xs_cons (xb_var 0) (xs_cons (xb_of (xe_call F__law_moved (hr.mono (by decide)) (xs_cons (xb_var 1) (xs_cons (xb_var 5) (xs_cons (xb_var 6) xs_nil))) (hn := (sa_len (sa_len (sa_len sa_len0)))))) xs_nil)) (hn := (sa_len (sa_len sa_len0))))))))))
  (xss_one (xs_app 2 (xe_tup (xa_cons (xe_var 5) (xa_cons (xe_var 6) xa_nil)))))
  xss_nil)))))
  (xss_one (xs_ret (xe_lst (xl_sorted T hr (xb_var 2)))))))
theorem ok__law_refusal {f : Addr} {fd : FuncData} (F : L2.Fun K "_law_refusal" "_law_refusal" s__law_refusal f fd) (hm : mg "_law_refusal" = some (.ref f)) (T : Txs mg) (Z : Tx K mg ec CS) : Fn P w K mg base ec "_law_refusal" ["_law_kept"] 1 d__law_refusal :=
  have nd := sc__law_refusal.nd
  fnD F hm (F.binds fun _ _ _ _ _ _ us hl => match us, hl with | [_], _ => rfl) (okD F sc__law_refusal (by decide) fun cdv A outer s H B E hr tk pw =>
  xss_cons (xs_if (xt_cisn (xb_var 0))
  (xss_one (xs_ret xe_str))
  xss_nil)
  (xss_cons (xs_set 1 nd (xe_lst (xl_lst (xa_cons (xe_isk T Z.k.kx .marks (Z.k.e .marks).g (xb_var 0)) (xa_cons (xe_isk T Z.k.kx .slide (Z.k.e .slide).g (xb_var 0)) (xa_cons (xe_isk T Z.k.kx .text (Z.k.e .text).g (xb_var 0)) xa_nil))))))
  (xss_cons (xs_set 1 nd (xe_add (xe_var 1) (xe_lst (xl_lst (xa_cons (xe_isk T Z.k.kx .web (Z.k.e .web).g (xb_var 0)) (xa_cons (xe_isk T Z.k.kx .tree (Z.k.e .tree).g (xb_var 0)) (xa_cons (xe_isk T Z.k.kx .unlike (Z.k.e .unlike).g (xb_var 0)) xa_nil)))))))
  (xss_cons (xs_if (xt_w (xw_or (xt_cmp (cm_ne hr) (xe_cnt hr (xe_var 1) xe_bl) xe_int) (xw_or1 (xt_not (xt_tru (xb_of (xe_isv T Z.k.kx T.val (xb_var 0))))))))
  (xss_one (xs_ret xe_str))
  xss_nil)
  (xss_one (xs_ret (xe_ix (xb_of (xe_lst (xl_lst (xa_cons xe_str (xa_cons xe_str (xa_cons xe_str (xa_cons xe_str (xa_cons xe_str (xa_cons xe_str xa_nil))))))))) (xe_idx hr (xe_var 1) xe_bl))))))))
end
end MS

/-! MsB1: objects: method calls that may raise; a board in the heap. -/
namespace MS
open PySem L2 PyProof.Rows

def tMethE (C : Addr) (m : Str) (sp : Sp) (E : L2.St → L2.XK) (ta : TE) (t : TA) : TE := fun σ H Q => ta σ H fun x H1 => ∃ a dx fs, x = .ref a ∧ H1 a = some (.ins C dx fs) ∧ fs.lookup m = none ∧ t σ H1 fun vs H2 => sp (x :: vs) H2 Q (E σ)
def tMakeE (C : Addr) (sp : Sp) (E : L2.St → L2.XK) (t : TA) : TE := fun σ H Q => t σ H fun vs H1 => ∀ x dx, H1 x = none → H1 dx = none → dx ≠ x →
  sp (.ref x :: vs) (upd (upd H1 dx (.own x)) x (.ins C dx [])) (fun v H2 => v = .non ∧ Q (.ref x) H2) (E σ)
section
variable {X : Cx} {CX : CXT} {k : Nat} {f C : Addr} {fd : FuncData} {ps : List Str} {sp : Sp} {E : L2.St → L2.XK} {x m : Str} {p pos apos : Pos} {e o : Expr} {es : List Expr} {ta : TE} {t : TA}
theorem pe_methE {pl : Sem Bool} (he : PE X o ta) (c : Cls X.K C) (hm : Meth X.K C m f) (F : FnOk X.prog X.w X.K X.mg X.base CX k f fd ps sp) (hr : Room k X.A) (hb : Binds X.K fd ps []) (hx : ∀ σ, PassesAt CX X σ (E σ)) (ha : PA X (e :: es) t)
    (hst : starEach (e :: es) X.env = (false, eval e X.env) :: starEach es X.env := by rfl) (hpl : (backTo pos (starEach es X.env)).any (·.1) = false := by rfl)
    (ht : eval (.Call (.Attribute o m apos) (e :: es) [] pos) X.env = (do
      let ov ← eval o X.env
      standAt apos.atName
      let (f, first) ← holding [ov] (getMethod ov m pl)
      callWith pos f first (backTo pos (starEach (e :: es) X.env)) (backToKw pos (keywordEach [] X.env))) := by rfl) :
    PE X (.Call (.Attribute o m apos) (e :: es) [] pos) (tMethE C m sp E ta t) := by
  refine ⟨fun pins s σ H Q I h => ?_⟩
  refine PySem.W.methodCall_KW (pl := pl) (thn (he.run pins s σ H _ I h) fun u s1 ⟨x, H1, I1, rx, a, dx, fs, ex, ea, l, q⟩ => ?_) ht
  subst ex
  obtain rfl : u = Value.ref a := rx
  refine getmeth_ok I1 ea c hm l ?_
  refine PySem.W.callWith_K (first := [.ref a]) (h₀ := X.base) I.ok.mod.kin hm.kp (thn (ha.run pos pins s1 σ H1 _ I1 q) fun us s2 ⟨vs, H2, I2, r, q2⟩ => ⟨I2.kIn, ?_⟩) hst hpl
  exact run_fnS (us := .ref a :: us) (vs := .ref a :: vs) F hr hb (hx σ) I2 (.cons rfl r) q2
theorem pe_methE0 {pl : Sem Bool} (he : PE X o ta) (c : Cls X.K C) (hm : Meth X.K C m f) (F : FnOk X.prog X.w X.K X.mg X.base CX k f fd ps sp) (hr : Room k X.A) (hb : Binds X.K fd ps []) (hx : ∀ σ, PassesAt CX X σ (E σ))
    (ht : eval (.Call (.Attribute o m apos) [] [] pos) X.env = (do
      let ov ← eval o X.env
      standAt apos.atName
      let (f, first) ← holding [ov] (getMethod ov m pl)
      callWith pos f first (backTo pos (starEach [] X.env)) (backToKw pos (keywordEach [] X.env))) := by rfl) :
    PE X (.Call (.Attribute o m apos) [] [] pos) (tMethE C m sp E ta tNil) := by
  refine ⟨fun pins s σ H Q I h => ?_⟩
  refine PySem.W.methodCall_KW (pl := pl) (thn (he.run pins s σ H _ I h) fun u s1 ⟨x, H1, I1, rx, a, dx, fs, ex, ea, l, q⟩ => ?_) ht
  subst ex
  obtain rfl : u = Value.ref a := rx
  refine getmeth_ok I1 ea c hm l ?_
  exact PySem.W.callWith_K0 (first := [.ref a]) I1.kIn hm.kp (run_fnS (us := [.ref a]) (vs := [.ref a]) F hr hb (hx σ) I1 (.cons rfl .nil) q)
theorem run_makeS {pins : List (Addr × Obj)} {σ : L2.St} {H : Hp} {s : Shared} {Q : VK} {us : List Value} {vs : List V} (M : Mk X.K C f) (F : FnOk X.prog X.w X.K X.mg X.base CX k f fd ps sp) (hr : Room (k + 1) X.A) (hb : Binds X.K fd ps [])
    (hx : PassesAt CX X σ (E σ)) (I : Inv X pins σ H s) (r : Vals vs us)
    (h : ∀ x dx, H x = none → H dx = none → dx ≠ x → sp (.ref x :: vs) (upd (upd H dx (.own x)) x (.ins C dx [])) (fun v H2 => v = .non ∧ Q (.ref x) H2) (E σ)) :
    wpAny (model X.prog X.w) X.A (call (.ref C) us) (EP X pins σ Q) X.xe s := by
  have hq := h (s.heap.objs.size + 1) s.heap.objs.size (I.hok.fresh (Nat.le_succ _)) (I.hok.fresh (Nat.le_refl _)) (Nat.ne_of_lt (Nat.lt_succ_self _))
  have I2 := Inv.made (C := C) I
  have r2 : Vals (V.ref (s.heap.objs.size + 1) :: vs) (Value.ref (s.heap.objs.size + 1) :: us) := .cons rfl r
  have hl : (Value.ref (s.heap.objs.size + 1) :: us).length = ps.length := by
    have e := r2.length
    rw [F.len _ _ _ _ hq] at e
    exact e.symm
  have b := hb _ (Value.ref (s.heap.objs.size + 1) :: us) I2.kIn (by rw [List.append_nil]; exact hl)
  rw [List.append_nil] at b
  refine wpAny_call (make_map (f := f) I.kIn M.makes M.init (beq_iff_eq.mp M.fn) (codeAny_mono (F.run _ X.stack _ _ ⟨Value.ref (s.heap.objs.size + 1) :: us, []⟩ (Value.ref (s.heap.objs.size + 1) :: us) _ _ (E σ) (hr.make C us [])
    (I2.env0.make C us []) b r2 hq) fun r s' hq' => ?_))
  cases r with
  | error e => exact hx pins _ _ e s' I2 hq'
  | ok fl =>
    cases fl with
    | ret u =>
      obtain ⟨v, H', I3, rv, ev, q3⟩ := I2.after hq'
      subst ev
      exact ⟨rv, ⟨V.ref (s.heap.objs.size + 1), H', I3, rfl, q3⟩⟩
    | next => exact False.elim hq'
    | brk => exact False.elim hq'
    | cont => exact False.elim hq'
theorem pe_makeE (M : Mk X.K C f) (F : FnOk X.prog X.w X.K X.mg X.base CX k f fd ps sp) (hr : Room (k + 1) X.A) (hg : Gl X x) (hm : X.mg x = some (.ref C)) (hb : Binds X.K fd ps []) (hx : ∀ σ, PassesAt CX X σ (E σ))
    (ha : PA X (e :: es) t) (hdb : (x == ("__debug__" : Str)) = false := by decide) (he : starEach (e :: es) X.env = (false, eval e X.env) :: starEach es X.env := by rfl) (hpl : (backTo pos (starEach es X.env)).any (·.1) = false := by rfl) :
    PE X (.Call (.Name x p) (e :: es) [] pos) (tMakeE C sp E t) := by
  refine ⟨fun pins s σ H Q I h => ?_⟩
  refine wpAny_Call_Name_kw (ld_glob I hg hm ?_ hdb)
  refine PySem.W.callWith_K (h₀ := X.base) I.ok.mod.kin M.kp (thn (ha.run pos pins s σ H _ I h) fun us s1 ⟨vs, H1, I1, r, q⟩ => ⟨I1.kIn, ?_⟩) he hpl
  exact run_makeS M F hr hb (hx σ) I1 r q
end

/-! ### a board in the heap -/
def bf (vw vb vh : V) (l : Addr) : List (Str × V) := [("web", vw), ("beside", vb), ("here", vh), ("old", .ref l)]
structure BdAt (Cb : Addr) (B H : Hp) (a l : Addr) (w bs hr : PyData) (old : List PyData) : Prop where
  ins : ∃ dx vw vb vh, H a = some (.ins Cb dx (bf vw vb vh l)) ∧ Dt B vw w ∧ Dt B vb bs ∧ Dt B vh hr
  lst : ∃ xs, H l = some (.lst xs) ∧ DtAll B xs old
  na : B a = none
  nl : B l = none
theorem BdAt.on {Cb : Addr} {B H B' H' : Hp} {a l : Addr} {w bs hr : PyData} {old : List PyData} (h : BdAt Cb B H a l w bs hr old) (x : Ext B H B' H') : BdAt Cb B' H' a l w bs hr old := by
  obtain ⟨⟨dx, vw, vb, vh, h1, h2, h3, h4⟩, ⟨xs, g1, g2⟩, na, nl⟩ := h
  exact ⟨⟨dx, vw, vb, vh, x.h _ _ h1, h2.on x.b, h3.on x.b, h4.on x.b⟩, ⟨xs, x.h _ _ g1, g2.on x.b⟩, none_ext x h1 na, none_ext x g1 nl⟩
/-- all but a and l stands -/
structure ExtM (a l : Addr) (B H B' H' : Hp) : Prop where
  b : Same B B'
  h : ∀ c o, c ≠ a → c ≠ l → H c = some o → H' c = some o
  s : Same B' H'
  n : ∀ c o, B' c = some o → B c = some o ∨ H c = none ∨ (H c = some o ∧ ∃ xs, o = .tup xs)
theorem ExtM.of {a l : Addr} {B H B' H' : Hp} (x : Ext B H B' H') : ExtM a l B H B' H' := ⟨x.b, fun c o _ _ e => x.h c o e, x.s, x.n⟩
/-- what a class must have, of the written part -/
structure Bcl (K : PySem.W.Frag) (mg : Str → Option Value) (Cb : Addr) : Prop where
  cl : Cls K Cb
  nW : NoAttr K Cb "web"
  nB : NoAttr K Cb "beside"
  nH : NoAttr K Cb "here"
  nO : NoAttr K Cb "old"
  mgC : mg "Board" = some (.ref Cb)
theorem bf_web (vw vb vh : V) (l : Addr) : (bf vw vb vh l).lookup ("web" : Str) = some vw := by unfold bf; rfl
theorem bf_beside (vw vb vh : V) (l : Addr) : (bf vw vb vh l).lookup ("beside" : Str) = some vb := by
  unfold bf
  have h1 : (("beside" : Str) == "web") = false := by decide +kernel
  simp only [List.lookup, h1]
  rfl
theorem bf_here (vw vb vh : V) (l : Addr) : (bf vw vb vh l).lookup ("here" : Str) = some vh := by
  unfold bf
  have h1 : (("here" : Str) == "web") = false := by decide +kernel
  have h2 : (("here" : Str) == "beside") = false := by decide +kernel
  simp only [List.lookup, h1, h2]
  rfl
theorem bf_old (vw vb vh : V) (l : Addr) : (bf vw vb vh l).lookup ("old" : Str) = some (.ref l) := by
  unfold bf
  have h1 : (("old" : Str) == "web") = false := by decide +kernel
  have h2 : (("old" : Str) == "beside") = false := by decide +kernel
  have h3 : (("old" : Str) == "here") = false := by decide +kernel
  simp only [List.lookup, h1, h2, h3]
  rfl
theorem bf_no (vw vb vh : V) (l : Addr) {m : Str} (h1 : (m == "web") = false) (h2 : (m == "beside") = false) (h3 : (m == "here") = false) (h4 : (m == "old") = false) : (bf vw vb vh l).lookup m = none := by
  unfold bf
  simp only [List.lookup, h1, h2, h3, h4]
theorem bf_put (vw vb vh vh' : V) (l : Addr) : putF "here" vh' (bf vw vb vh l) = bf vw vb vh' l := by
  have h1 : ¬ ("web" : Str) = "here" := by decide +kernel
  have h2 : ¬ ("beside" : Str) = "here" := by decide +kernel
  unfold bf
  show (if ("web" : Str) = "here" then _ else (("web" : Str), vw) :: (if ("beside" : Str) = "here" then _ else (("beside" : Str), vb) :: (if ("here" : Str) = "here" then (("here" : Str), vh') :: [(("old" : Str), V.ref l)] else _))) = _
  rw [if_neg h1, if_neg h2, if_pos rfl]
end MS

/-! MsB2: slides_of hands back a new list. -/
namespace MS
open PySem L2 PyProof.Rows

def l_slides_of : DS := (sFor (iSeq (bOf (dVar 2))) (gN 4)
  (sFor (iSeq (bOf (dIx (bVar 1) (dVar 4)))) (gN 5)
  (sIf (tAnd (tNin (dVar 5) (bVar 2)) (tTru (bOf (dCall d_is_marks (saCons (bVar 0) (saCons (bOf (dCall d_moved (saCons (bVar 2) (saCons (bVar 4) (saCons (bVar 5) saNil))))) saNil))))))
  (sApp 3 (dTup (lCons (dVar 4) (lCons (dVar 5) lNil))))
  sNx)))
def spSl (K : PySem.W.Frag) (ec : MS.XK → Addr) : Sp := fun vs H Q E => vs.length = 3 ∧ ∃ B ss ρ2 ds, Same B H ∧ SlAll K ec B vs ss ∧ l_slides_of ((ss ++ List.replicate (6 - ss.length) Sl.nil).set 3 (.ow [])) = .nx ρ2 ∧ ρ2[3]? = some (.ow ds) ∧ ∀ p xs B' H', Ext B H B' H' → H p = none → B' p = none → H' p = some (.lst xs) → DtAll B' xs ds → Q (.ref p) H'
theorem xsq_cons {X : Cx} {C : Cc} {st : Stmt} {rest : List Stmt} {g : DS} {u : TS} (h1 : XS X C st g) (h2 : PSs X rest u) : PSs X (st :: rest) (tSeq (tS X.K C g) u) := pss_cons h1 h2
section
variable {P : Program} {w : World} {K : PySem.W.Frag} {mg : Str → Option Value} {base : Heap} {ec : MS.XK → Addr} {CS : Addr}
theorem okL_slides_of {f : Addr} {fd : FuncData} (F : L2.Fun K "slides_of" "slides_of" s_slides_of f fd) (T : Txs mg) (Z : Tx K mg ec CS) (F_is_marks : Fn P w K mg base ec "is_marks" ["web", "marks"] 1 d_is_marks) (F_moved : Fn P w K mg base ec "moved" ["marks", "one", "other"] 1 d_moved) : FnOk P w K mg base (L2.CX P w) 3 f fd ["web", "beside", "marks"] (spSl K ec) := by
  have nd := sc_slides_of.nd
  refine F.okX sc_slides_of (fun vs H Q E h => h.1) (fun cdv A outer s H vs Q E hr hsp => ?_)
  obtain ⟨hlen, B, ss, ρ2, ds, sm, ha, hg, h3, post⟩ := hsp
  have tk : Takes (cxOf (L2.CX P w) P w K mg base N_slides_of "slides_of" (defScope s_slides_of) f cdv A outer s H E) (fun cls d _ H' => E cls d H') := takes_of rfl rfl rfl rfl
  have pw := passes_of (X := cxOf (L2.CX P w) P w K mg base N_slides_of "slides_of" (defScope s_slides_of) f cdv A outer s H E) rfl
  refine ⟨_, xsq_cons (C := { G := H, B0 := B, W := fun cls d _ H' => E cls d H', ec := ec }) (g := sOwn 3 lNil) (xs_own 3 nd (xl_lst xa_nil)) (xsq_cons (C := { G := H, B0 := B, W := fun cls d _ H' => E cls d H', ec := ec }) (g := l_slides_of) ((xs_for (xi_seq (xe_var 2)) (xg_n 4 nd)
  (xss_one (xs_for (xi_seq (xe_ix (xb_var 1) (xe_var 4))) (xg_n 5 nd)
  (xss_one (xs_if (xt_w (xw_and (xt_cnin hr (xe_var 5) (xb_var 2) rfl) (xw_and1 (xt_tru (xb_of (xe_call F_is_marks (hr.mono (by decide)) (xs_cons (xb_var 0) (xs_cons (xb_of (xe_call F_moved (hr.mono (by decide)) (xs_cons (xb_var 2) (xs_cons (xb_var 4) (xs_cons (xb_var 5) xs_nil))) (hn := (sa_len (sa_len (sa_len sa_len0)))))) xs_nil)) (hn := (sa_len (sa_len sa_len0)))))))))
  (xss_one (xs_app 3 (xe_tup (xa_cons (xe_var 4) (xa_cons (xe_var 5) xa_nil)))))
  xss_nil)))))) (pss_one (ps_ret (pv 3)))), ?_⟩
  have S0 := stt_start (C := { G := H, B0 := B, W := fun cls d _ H' => E cls d H', ec := ec }) (K := K) (N := N_slides_of) sm ha (by rw [hlen]; decide)
  refine ⟨_, B, S0, ?_⟩
  intro σ1 B1 H1 s1 S1
  refine ⟨_, B1, S1, ?_⟩
  have hg' : l_slides_of ((ss ++ List.replicate (N_slides_of.length - ss.length) Sl.nil).set 3 (.ow [])) = .nx ρ2 := hg
  rw [hg']
  intro σ2 B2 H2 s2 S2
  obtain ⟨a, xs, z1, z2, z3, z4, z5⟩ := own_list S2 h3
  exact ⟨.ref a, z1, post a xs B2 H2 S2.x z4 z3 z2 z5⟩
end
end MS

/-! MsB3: near hands back lists that are new. -/
namespace MS
open PySem L2 PyProof.Rows
section
variable {X : Cx} {C : Cc} {pos : Pos}
theorem near_core (iw iF i1 i2 : Nat) {st1 st2 : Stmt} {rest : List Stmt} {u : TS} {gS : Tg} {gt g2 : TG} {is vs : List Nat}
    (h1 : PS X st1 (tAsg (tLc (tIb X.K C (iR1 (dIx (bVar iw) (dC (.int 0))))) gt (tT X.K C.blk MS.tYes) (tL X.K C.blk lNil) vs) (gName iF))) (tk : TgOk X.K gS gt is) (sub : ∀ i ∈ is, i ∈ vs) (hgS : ∀ d ρ, ∃ ρ1, gS d ρ = .ok ρ1)
    (h2 : PS X st2 (tFor (tI X.K C (iSeq (bOf (dIx (bVar iw) (dC (.int 1)))))) g2 (tSeq (tNapp iF i1 i2) (tNapp iF i2 i1)))) (tk2 : TgOk X.K (gT [i1, i2]) g2 [i1, i2])
    (h3 : PSs X rest u) (n1 : iF ≠ i1) (n2 : iF ≠ i2) (n3 : i1 ≠ i2) (n4 : iw ≠ i1) (n5 : iw ≠ i2) (n6 : iw ≠ iF) : PSs X (st1 :: st2 :: rest) (fun D σ H => ∃ ρ B n ps, Stt X.K C B H σ ρ ∧ ρ[iw]? = some (.fz (.tuple [.int n, .list (ps.map prD)])) ∧ ((0 ≤ n ∧ n ≤ 1000 ∧ ps.length ≤ 1000 ∧ ps.all (fun p => decide (0 ≤ p.1 ∧ p.1 < n ∧ 0 ≤ p.2 ∧ p.2 < n)) = true) ∧ ρ.all (fun s => !s.own) = true ∧ iF < ρ.length ∧ i1 < ρ.length ∧ i2 < ρ.length) ∧ ∀ σ' B' H' D1 as, Same B B' → Stt X.K C B' H' σ' (((ρ.set i1 .nil).set i2 .nil).set iF .nil) → σ'[iF]? = some (some (V.ref D1)) → Nest C B' H' D1 as ((nearGo ps (List.replicate n.toNat [])).map fun ns => ns.map PyData.int) → u D σ' H') :=
  (pss_cons h1 (pss_cons h2 h3)).imp fun D σ H ⟨ρ, B, n, ps, S, eW, hc, h⟩ => by
          obtain ⟨⟨c1, c2, c3, c4⟩, c5, c6, c7, c8⟩ := hc
          have no : NoOwn ρ := fun i s e => by
            have := List.all_eq_true.mp c5 s (List.mem_of_getElem? e)
            simpa using this
          have c4' : ∀ p ∈ ps, 0 ≤ p.1 ∧ p.1 < n ∧ 0 ≤ p.2 ∧ p.2 < n := fun p hp => of_decide_eq_true (List.all_eq_true.mp c4 p hp)
          have eit : iR1 (dIx (bVar iw) (dC (.int 0))) ρ = .ok (rngD 0 n.toNat) := by
            have : dIx (bVar iw) (dC (.int 0)) ρ = .ok (.int n) := by
              unfold dIx bVar dC
              rw [eW]
              rfl
            unfold iR1
            rw [this]
            show (if -1000000 ≤ n ∧ n ≤ 1000000 then Rs.ok (rngD 0 n.toNat) else .no) = _
            rw [if_pos (by omega)]
          show tLc _ _ _ _ _ σ H (fun x H1 => gName iF x σ H1 _)
          refine comp_nil tk sub S eit (by rw [rngD_len]; show n.toNat ≤ 1000000; omega) (fun d => hgS d _) fun B1 H1 D1 as x1 N1 => ?_
          rw [rngD_len] at N1
          -- the loop
          let ρ0 := ((ρ.set i1 Sl.nil).set i2 .nil).set iF .nil
          have get0 : ∀ (i : Nat) (s : Sl), ρ0[i]? = some s → s ≠ .nil → i ≠ i1 ∧ i ≠ i2 ∧ i ≠ iF ∧ ρ[i]? = some s := fun i s e ns => by
            rcases get_set_some e with ⟨_, z, _⟩ | ⟨q1, e⟩
            · exact absurd z ns
            · rcases get_set_some e with ⟨_, z, _⟩ | ⟨q2, e⟩
              · exact absurd z ns
              · rcases get_set_some e with ⟨_, z, _⟩ | ⟨q3, e⟩
                · exact absurd z ns
                · exact ⟨Ne.symm q3, Ne.symm q2, Ne.symm q1, e⟩
          have no0 : NoOwn ρ0 := fun i s e => by
            by_cases ns : s = .nil
            · subst ns; rfl
            · exact no i s (get0 i s e ns).2.2.2
          have len0 : ρ0.length = ρ.length := by simp [ρ0]
          have S1 : Stt X.K C B1 H1 σ ρ := S.on x1
          have hσl : σ.length = ρ.length := S.r.len
          have S2 : Stt X.K C B1 H1 (σ.set iF (some (V.ref D1))) ρ0 := by
            refine ⟨S1.x, ⟨by rw [List.length_set, len0]; exact hσl, fun i s e ns => ?_, fun i j s t v hij e1 e2 o1 o2 f1 f2 => ?_⟩⟩
            · obtain ⟨_, _, q, e'⟩ := get0 i s e ns
              obtain ⟨v, z1, z2⟩ := S1.r.at' i s e' ns
              exact ⟨v, by rw [List.getElem?_set_ne (Ne.symm q)]; exact z1, z2⟩
            · have := no0 i s e1
              rw [this] at o1; cases o1
          have eW0 : ρ0[iw]? = some (.fz (.tuple [.int n, .list (ps.map prD)])) := by
            show (((ρ.set i1 Sl.nil).set i2 .nil).set iF .nil)[iw]? = _
            rw [List.getElem?_set_ne (Ne.symm n6), List.getElem?_set_ne (Ne.symm n5), List.getElem?_set_ne (Ne.symm n4)]
            exact eW
          have eit2 : iSeq (bOf (dIx (bVar iw) (dC (.int 1)))) ρ0 = .ok (ps.map prD) := by
            have : dIx (bVar iw) (dC (.int 1)) ρ0 = .ok (.list (ps.map prD)) := by
              unfold dIx bVar dC
              rw [eW0]
              rfl
            unfold iSeq bOf
            rw [this]
            rfl
          refine ⟨ρ0, B1, S2, ?_⟩
          rw [eit2]
          intro J B2 H2 x2 w
          refine ⟨fun i m σ' H' => m = ps.length - i ∧ i ≤ ps.length ∧ ∃ B' dss, Same B2 B' ∧ Stt X.K C B' H' σ' ρ0 ∧ σ'[iF]? = some (some (V.ref D1)) ∧ Nest C B' H' D1 as (dss.map fun ns => ns.map PyData.int) ∧ dss.length = n.toNat ∧ (∀ j, (dss.getD j []).length ≤ 2 * i) ∧ nearGo (ps.drop i) dss = nearGo ps (List.replicate n.toNat []),
            ⟨ps.length, by simp, Nat.zero_le _, B2, List.replicate n.toNat [], Same.refl _, S2.on x2, List.getElem?_set_self (by rw [hσl]; exact c6), by
              have := N1.on x2
              rw [List.map_replicate]
              exact this, List.length_replicate, fun j => by
                rw [List.getD_eq_getElem?_getD, List.getElem?_replicate]
                split <;> simp, rfl⟩, ?_⟩
          rintro i m σ' H' ⟨rfl, hi, B', dss, sb, S', hF, N', hl, hb, hgo⟩
          by_cases hlt : i < ps.length
          · have ed : (ps.map prD)[i]? = some (prD ps[i]) := by rw [List.getElem?_map, List.getElem?_eq_getElem hlt]; rfl
            have edr : ps.drop i = ps[i] :: ps.drop (i + 1) := List.drop_eq_getElem_cons hlt
            obtain ⟨go, yl⟩ := (w B' H' sb S'.sm i).2 _ ed
            refine .inr ⟨go, fun σ2 H2 => ∃ B3 dss, Same B2 B3 ∧ Stt X.K C B3 H2 σ2 ρ0 ∧ σ2[iF]? = some (some (V.ref D1)) ∧ Nest C B3 H2 D1 as (dss.map fun ns => ns.map PyData.int) ∧ dss.length = n.toNat ∧ (∀ j, (dss.getD j []).length ≤ 2 * (i + 1)) ∧ nearGo (ps.drop (i + 1)) dss = nearGo ps (List.replicate n.toNat []),
              fun σ2 H2 p => ⟨ps.length - (i + 1), by omega, rfl, hlt, p⟩, fun x H3 y => ?_⟩
            obtain ⟨B3, x3, tx⟩ := yl x H3 y
            obtain ⟨a0, a1, a2, a3⟩ := c4' ps[i] (List.getElem_mem hlt)
            generalize hp : ps[i] = p at *
            obtain ⟨p1, p2⟩ := p
            simp only at a0 a1 a2 a3
            have eg2 : gT [i1, i2] (prD (p1, p2)) ρ0 = .ok ((ρ0.set i1 (.fz (.int p1))).set i2 (.fz (.int p2))) := rfl
            refine tk2.go (S'.on x3) tx eg2 fun σ2 T2 hl2 hj2 => ?_
            have N3 := N'.on x3
            have hF2 : σ2[iF]? = some (some (V.ref D1)) := by
              rw [hj2 iF (by simp [n1, n2])]
              exact hF
            have no2 : NoOwn ((ρ0.set i1 (.fz (.int p1))).set i2 (.fz (.int p2))) := fun j s e => by
              rcases get_set_some e with ⟨_, rfl, _⟩ | ⟨_, e⟩
              · rfl
              · rcases get_set_some e with ⟨_, rfl, _⟩ | ⟨_, e⟩
                · rfl
                · exact no0 j s e
            obtain ⟨v1, z1, t1⟩ := T2.r.at' i1 (.fz (.int p1)) (by rw [List.getElem?_set_ne (Ne.symm n3), List.getElem?_set_self (by rw [len0]; exact c7)]) (by intro q; cases q)
            obtain ⟨v2, z2, t2⟩ := T2.r.at' i2 (.fz (.int p2)) (by rw [List.getElem?_set_self (by rw [List.length_set, len0]; exact c8)]) (by intro q; cases q)
            cases (show Dt B3 v1 (.int p1) from t1)
            cases (show Dt B3 v2 (.int p2) from t2)
            have hlas : as.length = n.toNat := by rw [N3.len, List.length_map, hl]
            -- where the two lists lie
            have at_ : ∀ (q : Int), 0 ≤ q → q < n → ∃ b, as[q.toNat]? = some b ∧ atI (as.map V.ref) q = some (V.ref b) := fun q q0 q1 => by
              have hq : q.toNat < as.length := by omega
              refine ⟨as[q.toNat], List.getElem?_eq_getElem hq, ?_⟩
              rw [← atD_eq]
              unfold atD
              rw [if_pos q0, if_pos (by rw [List.length_map]; omega), List.getElem?_map, List.getElem?_eq_getElem hq]
              rfl
            obtain ⟨b1, hb1, hq1⟩ := at_ p1 a0 a1
            obtain ⟨b2, hb2, hq2⟩ := at_ p2 a2 a3
            have gd : ∀ (ds : List (List Int)) (q : Int), q.toNat < ds.length → (ds.map fun ns => ns.map PyData.int)[q.toNat]? = some ((ds.getD q.toNat []).map PyData.int) := fun ds q hq => by
              rw [List.getElem?_map, List.getD_eq_getElem?_getD, List.getElem?_eq_getElem hq]
              rfl
            have l1 : p1.toNat < dss.length := by omega
            have l2 : p2.toNat < dss.length := by omega
            obtain ⟨xs1, y1, y2, y3, y4⟩ := N3.inn p1.toNat b1 _ hb1 (gd dss p1 l1)
            have N4 := N3.add hb1 (gd dss p1 l1) y1 (d := .int p2) (.int p2)
            rw [← addAt_map dss p1.toNat p2 l1] at N4
            have T4 := T2.mutN (o := .lst (xs1 ++ [V.int p2])) no2 y2 y3
            have hl4 : (addAt dss p1.toNat p2).length = dss.length := by unfold addAt; rw [List.length_set]
            have l2' : p2.toNat < (addAt dss p1.toNat p2).length := by omega
            obtain ⟨xs2, w1, w2, w3, w4⟩ := N4.inn p2.toNat b2 _ hb2 (gd (addAt dss p1.toNat p2) p2 l2')
            have N5 := N4.add hb2 (gd (addAt dss p1.toNat p2) p2 l2') w1 (d := .int p1) (.int p1)
            rw [← addAt_map (addAt dss p1.toNat p2) p2.toNat p1 l2'] at N5
            have T5 := T4.mutN (o := .lst (xs2 ++ [V.int p1])) no2 w2 w3
            have bAdd : ∀ (ds : List (List Int)) (k : Nat) (z : Int) (M : Nat), (∀ j, (ds.getD j []).length ≤ M) → ∀ j, ((addAt ds k z).getD j []).length ≤ M + 1 := fun ds k z M hM j => by
              unfold addAt
              rw [List.getD_eq_getElem?_getD, List.getElem?_set]
              have h0 := hM k
              have h1 := hM j
              rw [List.getD_eq_getElem?_getD] at h0 h1
              split
              · split
                · simp only [Option.getD_some, List.length_append, List.length_singleton, List.getD_eq_getElem?_getD]; omega
                · simp
              · omega
            have lx1 : xs1.length < sizeLine := by
              rw [y4.len, List.length_map]
              have := hb p1.toNat
              exact lim_lt (by show _ ≤ 1000000; omega)
            have lx2 : xs2.length < sizeLine := by
              rw [w4.len, List.length_map]
              have := bAdd dss p1.toNat p2 _ hb p2.toNat
              exact lim_lt (by show _ ≤ 1000000; omega)
            refine ⟨D1, as.map V.ref, p1, b1, xs1, .int p2, hF2, z1, z2, N3.out, hq1, y1, lx1, D1, as.map V.ref, p2, b2, xs2, .int p1, hF2, z2, z1, N4.out, hq2, w1, lx2, ?_⟩
            refine ⟨B3, addAt (addAt dss p1.toNat p2) p2.toNat p1, sb.trans x3.b, T5.sub (by simp [ρ0]) fun j s e ns => ?_, hF2, N5, by unfold addAt; rw [List.length_set, List.length_set]; exact hl, fun j => ?_, ?_⟩
            · obtain ⟨q1, q2, _, _⟩ := get0 j s e ns
              rw [List.getElem?_set_ne (Ne.symm q2), List.getElem?_set_ne (Ne.symm q1)]
              exact e
            · have := bAdd _ p2.toNat p1 _ (bAdd dss p1.toNat p2 _ hb) j
              omega
            · rw [← hgo, edr]
              rfl
          · have e : i = ps.length := by omega
            subst e
            rw [List.drop_length] at hgo
            have hgo' : dss = nearGo ps (List.replicate n.toNat []) := hgo
            subst hgo'
            refine .inl ⟨(w B' H' sb S'.sm _).1 (by rw [List.length_map]; exact Nat.le_refl _), ?_⟩
            exact h σ' B' H' D1 as ((x1.b.trans x2.b).trans sb) S' hF N'
end

def lstI' (ns : List Int) : PyData := .list (ns.map PyData.int)
/-- a statement of which each frozen part will do -/
theorem ps_exC {X : Cx} {W : WX} {ec : MS.XK → Addr} {st : Stmt} {g : DS} (h : ∀ G B0, XS X { G := G, B0 := B0, W := W, ec := ec } st g) : PS X st (fun D σ H => ∃ G B0, tS X.K { G := G, B0 := B0, W := W, ec := ec } g D σ H) := ⟨fun pins s σ H D I ⟨G, B0, q⟩ => (h G B0).run pins s σ H D I q⟩
/-- what is handed back lies in what is new -/
def spNear (K : PySem.W.Frag) (ec : MS.XK → Addr) : Sp := fun vs H Q E => vs.length = 1 ∧ ∃ B n ps d, Same B H ∧ SlAll K ec B vs [.fz (.tuple [.int n, .list (ps.map prD)])] ∧ (0 ≤ n ∧ n ≤ 1000 ∧ ps.length ≤ 1000 ∧ ps.all (fun p => decide (0 ≤ p.1 ∧ p.1 < n ∧ 0 ≤ p.2 ∧ p.2 < n)) = true) ∧ (dLst (lComp (iSeq (bVar 1)) (gN 5) tYes (dLst (lSorted (bVar 5))) [5])) [.nil, .fz (.list ((nearGo ps (List.replicate n.toNat [])).map lstI')), .nil, .nil, .nil, .nil] = .ok d ∧
  ∀ v B' H', Same H H' → Same B' H' → (∀ c o, B' c = some o → H c = none ∨ ∃ xs, o = .tup xs) → Dt B' v d → Q v H'
section
variable {P : Program} {w : World} {K : PySem.W.Frag} {mg : Str → Option Value} {base : Heap} {ec : MS.XK → Addr} {CS : Addr}
theorem okF_near {f : Addr} {fd : FuncData} (F : L2.Fun K "near" "near" s_near f fd) (T : Txs mg) (Z : Tx K mg ec CS) : FnOk P w K mg base (L2.CX P w) 2 f fd ["web"] (spNear K ec) := by
  have nd := sc_near.nd
  refine F.okX sc_near (fun vs H Q E h => h.1) (fun cdv A outer s H vs Q E hr hsp => ?_)
  obtain ⟨hlen, B, n, ps, d, sm, ha, hc, hd, post⟩ := hsp
  have tk : Takes (cxOf (L2.CX P w) P w K mg base N_near "near" (defScope s_near) f cdv A outer s H E) (fun cls d _ H' => E cls d H') := takes_of rfl rfl rfl rfl
  have pw := passes_of (X := cxOf (L2.CX P w) P w K mg base N_near "near" (defScope s_near) f cdv A outer s H E) rfl
  refine ⟨_, near_core (C := { G := H, B0 := B, W := fun cls d _ H' => E cls d H', ec := ec }) 0 1 2 3 (ps_setLc (own := [("spot", 4)]) (wi := tIb _ _ _) rfl nd rfl rfl (sw_true rfl rfl rfl (by decide +kernel)) (xib_rng1 T (xe_ix (xb_var 0) xe_int)) (blkOk_by (N := N_near) (sc := (defScope s_near)) (by decide +kernel)) (fun _ _ _ _ _ => (xg_n 4 nd).pg) (fun _ _ _ _ _ => xts_nil.run) (fun _ _ _ _ _ => xl_lst xa_nil)) (tok_n 4) (sub_of rfl) (fun _ _ => ⟨_, rfl⟩) (ps_for pw rfl (xi_seq (xe_ix (xb_var 0) xe_int)) (xg_t rfl (xgs_cons 2 nd (xgs_cons 3 nd xgs_nil))).pg (pss_cons (ps_napp 1 2 3) (pss_one (ps_napp 1 3 2)))) (tok_t (toks_cons 2 (toks_cons 3 toks_nil)))
    (pss_one (ps_exC (W := fun cls d _ H' => E cls d H') (ec := ec) (g := sRet (dLst (lComp (iSeq (bVar 1)) (gN 5) tYes (dLst (lSorted (bVar 5))) [5]))) fun G B0 => xs_ret (xe_lst (xl_comp (own := [("some", 5)]) rfl nd (xib_seq (xb_var 1)) (blkOk_by (N := N_near) (sc := (defScope s_near)) (by decide +kernel)) (fun _ _ _ _ _ => xg_n 5 nd) (fun _ _ _ _ _ => xts_nil) (fun _ _ _ _ _ => xe_lst (xl_sorted T hr (xb_var 5))))))) (by decide) (by decide) (by decide) (by decide) (by decide) (by decide), ?_⟩
  have S0 := stt_start (C := { G := H, B0 := B, W := fun cls d _ H' => E cls d H', ec := ec }) (K := K) (N := N_near) sm ha (by rw [hlen]; decide)
  refine ⟨_, B, n, ps, S0, rfl, ⟨hc, rfl, (by show 1 < 6; decide), (by show 2 < 6; decide), (by show 3 < 6; decide)⟩, fun σ' B1 H1 D1 as sb S1 hF N => ?_⟩
  have hin : ∀ b ∈ as, B1 b = none ∧ H b = none := fun b hb => by
    obtain ⟨i, hi⟩ := List.mem_iff_getElem?.mp hb
    have hl : i < ((nearGo ps (List.replicate n.toNat [])).map fun ns => ns.map PyData.int).length := by rw [← N.len]; exact (List.getElem?_eq_some_iff.mp hi).1
    obtain ⟨xs, h1, h2, h3, h4⟩ := N.inn i b _ hi (List.getElem?_eq_getElem hl)
    exact ⟨h2, h3⟩
  let B2 : Hp := fun c => if c = D1 ∨ c ∈ as then H1 c else none
  have eB : ∀ c, B2 c = if c = D1 ∨ c ∈ as then H1 c else none := fun _ => rfl
  have sm2 : Same B2 H1 := fun c o e => by
    rw [eB] at e
    split at e
    · exact e
    · cases e
  have new2 : ∀ c o, B2 c = some o → H c = none := fun c o e => by
    rw [eB] at e
    split at e
    · rename_i q
      rcases q with rfl | q
      · exact N.og
      · exact (hin c q).2
    · cases e
  have ofInts : ∀ (Bx : Hp) (xs : List V) (ns : List Int), DtAll B1 xs (ns.map PyData.int) → DtAll Bx xs (ns.map PyData.int) := fun Bx xs ns h => by
    have := h.ints (intsOf_map ns)
    subst this
    exact DtAll.of_ints ns
  have allD : ∀ (as : List Addr) (dss : List (List Int)), as.length = dss.length → (∀ b ∈ as, B2 b = H1 b) → (∀ (i : Nat) (b : Addr) (ds : List PyData), as[i]? = some b → (dss.map fun ns => ns.map PyData.int)[i]? = some ds → ∃ xs, H1 b = some (.lst xs) ∧ DtAll B1 xs ds) → DtAll B2 (as.map V.ref) (dss.map lstI') := by
    intro as
    induction as with
    | nil =>
      intro dss hl _ _
      cases dss with
      | nil => exact .nil
      | cons _ _ => cases hl
    | cons b as ih =>
      intro dss hl hb h
      cases dss with
      | nil => cases hl
      | cons ds dss =>
        obtain ⟨xs, h1, h4⟩ := h 0 b _ rfl rfl
        exact .cons (.lst ((hb b List.mem_cons_self).trans h1) (ofInts B2 xs ds h4)) (ih dss (by simpa using hl) (fun c hc => hb c (List.mem_cons_of_mem _ hc)) fun i c es e1 e2 => h (i + 1) c es e1 e2)
  have tD : Dt B2 (.ref D1) (.list ((nearGo ps (List.replicate n.toNat [])).map lstI')) := by
    refine .lst (by rw [eB, if_pos (.inl rfl)]; exact N.out) (allD as _ (by rw [N.len, List.length_map]) (fun b hb => by rw [eB, if_pos (.inr hb)]) fun i b ds e1 e2 => ?_)
    obtain ⟨xs, h1, h2, h3, h4⟩ := N.inn i b ds e1 e2
    exact ⟨xs, h1, h4⟩
  have hσl : σ'.length = 6 := by
    have := S1.r.len
    rw [List.length_set, List.length_set, List.length_set] at this
    rw [this]
    rfl
  have S2 : Stt K { G := H1, B0 := B2, W := fun cls d _ H' => E cls d H', ec := ec } B2 H1 σ' [.nil, .fz (.list ((nearGo ps (List.replicate n.toNat [])).map lstI')), .nil, .nil, .nil, .nil] := by
    refine ⟨Ext.refl sm2, ⟨hσl, fun i s e ns => ?_, fun i j s t v hij e1 e2 o1 o2 f1 f2 => ?_⟩⟩
    · match i, e with
      | 0, e => exact absurd (Option.some.inj e).symm ns
      | 1, e =>
        have e' := Option.some.inj e
        subst e'
        exact ⟨_, hF, tD⟩
      | 2, e => exact absurd (Option.some.inj e).symm ns
      | 3, e => exact absurd (Option.some.inj e).symm ns
      | 4, e => exact absurd (Option.some.inj e).symm ns
      | 5, e => exact absurd (Option.some.inj e).symm ns
      | i + 6, e => cases e
    · match i, e1 with
      | 0, e => cases (Option.some.inj e); cases o1
      | 1, e => cases (Option.some.inj e); cases o1
      | 2, e => cases (Option.some.inj e); cases o1
      | 3, e => cases (Option.some.inj e); cases o1
      | 4, e => cases (Option.some.inj e); cases o1
      | 5, e => cases (Option.some.inj e); cases o1
      | i + 6, e => cases e
  refine ⟨H1, B2, _, B2, S2, ?_⟩
  have eg : sRet (dLst (lComp (iSeq (bVar 1)) (gN 5) tYes (dLst (lSorted (bVar 5))) [5])) [.nil, .fz (.list ((nearGo ps (List.replicate n.toNat [])).map lstI')), .nil, .nil, .nil, .nil] = .rt d := by
    unfold sRet
    rw [hd]
    rfl
  rw [eg]
  intro v B3 H3 s3 x3 t3
  refine post v B3 H3 (S1.x.h.trans x3.h) x3.s (fun c o e => ?_) t3
  rcases x3.n c o e with q | q | ⟨q, xs, rfl⟩
  · exact .inl (new2 c o q)
  · exact .inl (S1.x.h.free q)
  · exact .inr ⟨xs, rfl⟩
end
end MS

/-! MsB4: the board's methods that change nothing. -/
namespace MS
open PySem L2 PyProof.Rows

/-- a def that keeps the promise sp stands at the name x -/
structure FnS (P : Program) (w : World) (K : PySem.W.Frag) (mg : Str → Option Value) (base : Heap) (x : Str) (ps : List Str) (k : Nat) (sp : Sp) : Prop where
  ex : ∃ f fd, FnOk P w K mg base (L2.CX P w) k f fd ps sp ∧ mg x = some (.ref f) ∧ PySem.W.keepIn K (.ref f) = true ∧ L2.Binds K fd ps []
/-- a method of the board's class that keeps the promise sp -/
structure MtS (P : Program) (w : World) (K : PySem.W.Frag) (mg : Str → Option Value) (base : Heap) (Cb : Addr) (m : Str) (ps : List Str) (k : Nat) (sp : Sp) : Prop where
  ex : ∃ f fd, FnOk P w K mg base (L2.CX P w) k f fd ps sp ∧ Meth K Cb m f ∧ L2.Binds K fd ps []
theorem fnS_of {P : Program} {w : World} {K : PySem.W.Frag} {mg : Str → Option Value} {base : Heap} {ec : MS.XK → Addr} {x : Str} {ps : List Str} {k : Nat} {g : DF} (F : Fn P w K mg base ec x ps k g) : FnS P w K mg base x ps k (spD K ec ps.length g) := ⟨F.ex⟩
section
variable {X : Cx} {e o : Expr} {es : List Expr} {t : TA} {ta : TE} {W : WX} {p pos apos : Pos}
theorem pe_fnS {x : Str} {ps : List Str} {k : Nat} {sp : Sp} (F : FnS X.prog X.w X.K X.mg X.base x ps k sp) (hr : Room k X.A) (tk : Takes X W) (ha : PA X (e :: es) t) (hg : Gl X x := by rfl) (hdb : (x == ("__debug__" : Str)) = false := by decide)
    (he : starEach (e :: es) X.env = (false, eval e X.env) :: starEach es X.env := by rfl) (hpl : (backTo pos (starEach es X.env)).any (·.1) = false := by rfl) : PE X (.Call (.Name x p) (e :: es) [] pos) (tCallS sp (WE W) t) := by
  obtain ⟨fa, fd, G, hm, hk, hb⟩ := F.ex
  exact pe_callS (E := WE W) G hr hg hm hk hb (fun σ => passAt tk σ) ha hdb he hpl
theorem pe_mtS {pl : Sem Bool} {Cb : Addr} {m : Str} {ps : List Str} {k : Nat} {sp : Sp} (F : MtS X.prog X.w X.K X.mg X.base Cb m ps k sp) (c : Cls X.K Cb) (hr : Room k X.A) (tk : Takes X W) (ho : PE X o ta) (ha : PA X (e :: es) t)
    (hst : starEach (e :: es) X.env = (false, eval e X.env) :: starEach es X.env := by rfl) (hpl : (backTo pos (starEach es X.env)).any (·.1) = false := by rfl)
    (ht : eval (.Call (.Attribute o m apos) (e :: es) [] pos) X.env = (do
      let ov ← eval o X.env
      standAt apos.atName
      let (f, first) ← holding [ov] (getMethod ov m pl)
      callWith pos f first (backTo pos (starEach (e :: es) X.env)) (backToKw pos (keywordEach [] X.env))) := by rfl) : PE X (.Call (.Attribute o m apos) (e :: es) [] pos) (tMethE Cb m sp (WE W) ta t) := by
  obtain ⟨fa, fd, G, hm, hb⟩ := F.ex
  exact pe_methE (E := WE W) ho c hm G hr hb (fun σ => passAt tk σ) ha hst hpl ht
theorem pe_mtS0 {pl : Sem Bool} {Cb : Addr} {m : Str} {ps : List Str} {k : Nat} {sp : Sp} (F : MtS X.prog X.w X.K X.mg X.base Cb m ps k sp) (c : Cls X.K Cb) (hr : Room k X.A) (tk : Takes X W) (ho : PE X o ta)
    (ht : eval (.Call (.Attribute o m apos) [] [] pos) X.env = (do
      let ov ← eval o X.env
      standAt apos.atName
      let (f, first) ← holding [ov] (getMethod ov m pl)
      callWith pos f first (backTo pos (starEach [] X.env)) (backToKw pos (keywordEach [] X.env))) := by rfl) : PE X (.Call (.Attribute o m apos) [] [] pos) (tMethE Cb m sp (WE W) ta tNil) := by
  obtain ⟨fa, fd, G, hm, hb⟩ := F.ex
  exact pe_methE0 (E := WE W) ho c hm G hr hb (fun σ => passAt tk σ) ht
end
abbrev sB (i : Nat) : Stmt := inClass (top 22) i
theorem scMarks : FnScope ["self"] ["self"] (defScope (sB 1)) := ⟨rfl, rfl, rfl, by decide +kernel, rfl, by decide +kernel, by decide +kernel⟩
theorem scSlides : FnScope ["self"] ["self"] (defScope (sB 2)) := ⟨rfl, rfl, rfl, by decide +kernel, rfl, by decide +kernel, by decide +kernel⟩
theorem scRow : FnScope ["self"] ["self"] (defScope (sB 5)) := ⟨rfl, rfl, rfl, by decide +kernel, rfl, by decide +kernel, by decide +kernel⟩
theorem scTo : FnScope ["self", "goal"] ["self", "goal"] (defScope (sB 6)) := ⟨rfl, rfl, rfl, by decide +kernel, rfl, by decide +kernel, by decide +kernel⟩
/-- what the slides of such a web and such marks are -/
def SlRun (w bs hr : PyData) (ds : List PyData) : Prop := ∃ ρ2 : Env, l_slides_of [.fz w, .fz bs, .fz hr, .ow [], .nil, .nil] = .nx ρ2 ∧ ρ2[3]? = some (.ow ds)
def spMarks (Cb : Addr) : Sp := fun vs H Q _ => ∃ a l B w bs hr old, vs = [.ref a] ∧ Same B H ∧ BdAt Cb B H a l w bs hr old ∧ ∀ v, Dt B v hr → Q v H
def spSlides (Cb : Addr) : Sp := fun vs H Q _ => ∃ a l B w bs hr old ds, vs = [.ref a] ∧ Same B H ∧ BdAt Cb B H a l w bs hr old ∧ SlRun w bs hr ds ∧ ∀ p xs B' H', Ext B H B' H' → H p = none → B' p = none → H' p = some (.lst xs) → DtAll B' xs ds → Q (.ref p) H'
def spRow (Cb : Addr) : Sp := fun vs H Q _ => ∃ a l B w bs hr old, vs = [.ref a] ∧ Same B H ∧ BdAt Cb B H a l w bs hr old ∧ ∀ p xs B' H', Ext B H B' H' → H p = none → B' p = none → H' p = some (.lst xs) → DtAll B' xs old → Q (.ref p) H'
def spTo (Cb : Addr) (ec : MS.XK → Addr) : Sp := fun vs H Q E => ∃ a l B w bs hr old vg g, vs = [.ref a, vg] ∧ Same B H ∧ BdAt Cb B H a l w bs hr old ∧ Dt B vg g ∧ (match d_told [.fz w, .fz hr, .fz g] with
  | .ok d => ∀ v B' H', Ext B H B' H' → Dt B' v d → Q v H'
  | .er k => ∀ B' H', Ext B H B' H' → E (.ref (ec k)) none H'
  | .no => False)
section
variable {P : Program} {w : World} {K : PySem.W.Frag} {mg : Str → Option Value} {base : Heap} {ec : MS.XK → Addr} {CS Cb : Addr}
theorem ok_marks {f : Addr} {fd : FuncData} (F : L2.Fun K "marks" "Board.marks" (sB 1) f fd) (T : Bcl K mg Cb) : FnOk P w K mg base (L2.CX P w) 1 f fd ["self"] (spMarks Cb) := by
  refine F.okX scMarks (fun vs H Q E h => ?_) (fun cdv A outer s H vs Q E hr h => ?_)
  · obtain ⟨a, l, B, w, bs, hr, old, rfl, _⟩ := h
    rfl
  · obtain ⟨a, l, B, w', bs, hr', old, rfl, sm, ⟨⟨dx, vw, vb, vh, h1, h2, h3, h4⟩, _, _, _⟩, post⟩ := h
    refine ⟨_, pss_one (ps_ret (pe_fld (pv 0) rfl)), ?_⟩
    exact ⟨.ref a, rfl, a, Cb, dx, _, vh, rfl, h1, T.cl, T.nH, bf_here vw vb vh l, post vh h4⟩
theorem ok_slides {f : Addr} {fd : FuncData} (F : L2.Fun K "slides" "Board.slides" (sB 2) f fd) (T : Bcl K mg Cb) (FL : FnS P w K mg base "slides_of" ["web", "beside", "marks"] 3 (spSl K ec)) : FnOk P w K mg base (L2.CX P w) 4 f fd ["self"] (spSlides Cb) := by
  refine F.okX scSlides (fun vs H Q E h => ?_) (fun cdv A outer s H vs Q E hr h => ?_)
  · obtain ⟨a, l, B, w, bs, hr, old, ds, rfl, _⟩ := h
    rfl
  · obtain ⟨a, l, B, w', bs, hr', old, ds, rfl, sm, ⟨⟨dx, vw, vb, vh, h1, h2, h3, h4⟩, _, _, _⟩, ⟨ρ2, r1, r2⟩, post⟩ := h
    have tk : Takes (cxOf (L2.CX P w) P w K mg base ["self"] "Board.slides" (defScope (sB 2)) f cdv A outer s H E) (fun cls d _ H' => E cls d H') := takes_of rfl rfl rfl rfl
    refine ⟨_, pss_one (ps_ret (pe_fnS FL hr tk (pa_cons (pe_fld (pv 0) rfl) (pa_cons (pe_fld (pv 0) rfl) (pa_cons (pe_fld (pv 0) rfl) pa_nil))))), ?_⟩
    refine ⟨.ref a, rfl, a, Cb, dx, _, vw, rfl, h1, T.cl, T.nW, bf_web vw vb vh l, .ref a, rfl, a, Cb, dx, _, vb, rfl, h1, T.cl, T.nB, bf_beside vw vb vh l, .ref a, rfl, a, Cb, dx, _, vh, rfl, h1, T.cl, T.nH, bf_here vw vb vh l, ?_⟩
    exact ⟨rfl, B, [.fz w', .fz bs, .fz hr'], ρ2, ds, sm, .cons h2 (.cons h3 (.cons h4 .nil)), r1, r2, post⟩
theorem ok_row {f : Addr} {fd : FuncData} (F : L2.Fun K "row" "Board.row" (sB 5) f fd) (T : Bcl K mg Cb) (Tx' : Txs mg) : FnOk P w K mg base (L2.CX P w) 1 f fd ["self"] (spRow Cb) := by
  refine F.okX scRow (fun vs H Q E h => ?_) (fun cdv A outer s H vs Q E hr h => ?_)
  · obtain ⟨a, l, B, w, bs, hr, old, rfl, _⟩ := h
    rfl
  · obtain ⟨a, l, B, w', bs, hr', old, rfl, sm, ⟨⟨dx, vw, vb, vh, h1, h2, h3, h4⟩, ⟨xs, g1, g2⟩, _, _⟩, post⟩ := h
    refine ⟨_, pss_one (ps_ret (pe_callTy call_list_of (by rfl) Tx'.list (by decide +kernel) (pa_cons (pe_fld (pv 0) rfl) pa_nil))), ?_⟩
    refine ⟨.ref a, rfl, a, Cb, dx, _, .ref l, rfl, h1, T.cl, T.nO, bf_old vw vb vh l, l, xs, rfl, .inl (SqL.of g1), fun q hq => ?_⟩
    exact post q xs B _ (Ext.raw sm hq) hq (sm.free hq) upd_same g2
theorem ok_to {f : Addr} {fd : FuncData} (F : L2.Fun K "to" "Board.to" (sB 6) f fd) (T : Bcl K mg Cb) (FT : Fn P w K mg base ec "told" ["web", "marks", "goal"] 5 d_told) : FnOk P w K mg base (L2.CX P w) 6 f fd ["self", "goal"] (spTo Cb ec) := by
  refine F.okX scTo (fun vs H Q E h => ?_) (fun cdv A outer s H vs Q E hr h => ?_)
  · obtain ⟨a, l, B, w, bs, hr, old, vg, g, rfl, _⟩ := h
    rfl
  · obtain ⟨a, l, B, w', bs, hr', old, vg, g, rfl, sm, ⟨⟨dx, vw, vb, vh, h1, h2, h3, h4⟩, _, _, _⟩, tg, post⟩ := h
    have tk : Takes (cxOf (L2.CX P w) P w K mg base ["self", "goal"] "Board.to" (defScope (sB 6)) f cdv A outer s H E) (fun cls d _ H' => E cls d H') := takes_of rfl rfl rfl rfl
    refine ⟨_, pss_one (ps_ret (pe_fnS (fnS_of FT) hr tk (pa_cons (pe_fld (pv 0) rfl) (pa_cons (pe_fld (pv 0) rfl) (pa_cons (pv 1) pa_nil))))), ?_⟩
    refine ⟨.ref a, rfl, a, Cb, dx, _, vw, rfl, h1, T.cl, T.nW, bf_web vw vb vh l, .ref a, rfl, a, Cb, dx, _, vh, rfl, h1, T.cl, T.nH, bf_here vw vb vh l, vg, rfl, ?_⟩
    refine ⟨rfl, B, [.fz w', .fz hr', .fz g], sm, .cons h2 (.cons h4 (.cons tg .nil)), ?_⟩
    cases e : d_told [.fz w', .fz hr', .fz g] with
    | ok d => rw [e] at post; exact post
    | er k => rw [e] at post; exact post
    | no => rw [e] at post; exact post
end
end MS

/-! MsMath0: the dens as rules; data of ints. -/
namespace MS
open PySem

/-! ### equations of the dens -/
section
variable {ρ : Env} {a b c e f : DE} {fb : DB} {l : DL} {ar : DA} {t u : DT}
@[simp] theorem dVar_e (i : Nat) : dVar i ρ = (match ρ[i]? with
  | some (.fz d) => .ok d
  | _ => .no) := rfl
@[simp] theorem bVar_e (i : Nat) : bVar i ρ = (match ρ[i]? with
  | some .nil => .no
  | some s => .ok s
  | none => .no) := rfl
@[simp] theorem bOf_e : bOf e ρ = (e ρ).bind fun d => .ok (.fz d) := rfl
@[simp] theorem dC_e (d : PyData) : dC d ρ = .ok d := rfl
@[simp] theorem dBin_e (op : PyData → PyData → Rs PyData) : dBin op a b ρ = (a ρ).bind fun x => (b ρ).bind fun y => op x y := rfl
@[simp] theorem tCmp_e (op : PyData → PyData → Rs Bool) : tCmp op a b ρ = (a ρ).bind fun x => (b ρ).bind fun y => op x y := rfl
@[simp] theorem tCh_e (c1 c2 : PyData → PyData → Rs Bool) : tCh c1 c2 a b c ρ = (a ρ).bind fun x => (b ρ).bind fun y => (c1 x y).bind fun k => if k = true then (c ρ).bind fun z => c2 y z else .ok false := rfl
@[simp] theorem tCh3_e (c1 c2 c3 : PyData → PyData → Rs Bool) : tCh3 c1 c2 c3 a b c e ρ = (a ρ).bind fun x => (b ρ).bind fun y => (c1 x y).bind fun k => if k = true then (c ρ).bind fun z => (c2 y z).bind fun k => if k = true then (e ρ).bind fun u => c3 z u else .ok false else .ok false := rfl
@[simp] theorem tIn_e : tIn a fb ρ = (a ρ).bind fun x => (fb ρ).bind fun s => cIn x s := rfl
@[simp] theorem tNin_e : tNin a fb ρ = (a ρ).bind fun x => (fb ρ).bind fun s => (cIn x s).bind fun k => .ok (!k) := rfl
@[simp] theorem tIsN_e : tIsN fb ρ = (fb ρ).bind isN := rfl
@[simp] theorem tNotN_e : tNotN fb ρ = (fb ρ).bind fun s => (isN s).bind fun b => .ok (!b) := rfl
@[simp] theorem dT_e : dT t ρ = (t ρ).bind fun b => .ok (.bool b) := rfl
@[simp] theorem tAnd_e : tAnd t u ρ = (t ρ).bind fun b => if b = true then u ρ else .ok false := rfl
@[simp] theorem tOr_e : tOr t u ρ = (t ρ).bind fun b => if b = true then .ok true else u ρ := rfl
@[simp] theorem tNot_e : tNot t ρ = (t ρ).bind fun b => .ok (!b) := rfl
@[simp] theorem dAnd_e : dAnd a b ρ = (a ρ).bind fun x => (asB x).bind fun k => if k = true then b ρ else .ok (.bool false) := rfl
@[simp] theorem dOr_e : dOr a b ρ = (a ρ).bind fun x => (asB x).bind fun k => if k = true then .ok (.bool true) else b ρ := rfl
@[simp] theorem dNot_e : dNot a ρ = (a ρ).bind fun x => (asB x).bind fun k => .ok (.bool (!k)) := rfl
@[simp] theorem tTru_e : tTru fb ρ = (fb ρ).bind truS := rfl
@[simp] theorem dIf_e : dIf t a b ρ = (t ρ).bind fun k => if k = true then a ρ else b ρ := rfl
@[simp] theorem lNil_e : lNil ρ = .ok [] := rfl
@[simp] theorem lCons_e : lCons a l ρ = (a ρ).bind fun x => (l ρ).bind fun xs => .ok (x :: xs) := rfl
@[simp] theorem dLst_e : dLst l ρ = (l ρ).bind fun ds => .ok (.list ds) := rfl
@[simp] theorem dTup_e : dTup l ρ = (l ρ).bind fun ds => .ok (.tuple ds) := rfl
@[simp] theorem dIx_e : dIx fb e ρ = (fb ρ).bind fun s => (e ρ).bind fun d => ixS s d := rfl
@[simp] theorem oN_e : oN ρ = .ok none := rfl
@[simp] theorem oE_e : oE e ρ = (e ρ).bind fun d => match d with
  | .int i => .ok (some i)
  | _ => .no := rfl
@[simp] theorem dSl_e {lo hi : DO} : dSl e lo hi ρ = (e ρ).bind fun d => (lo ρ).bind fun l => (hi ρ).bind fun h => slD d l h := rfl
@[simp] theorem dRev_e : dRev e ρ = (e ρ).bind fun d => match d with
  | .list ds => .ok (.list ds.reverse)
  | _ => .no := rfl
@[simp] theorem iSeq_e : iSeq fb ρ = (fb ρ).bind itS := rfl
@[simp] theorem iR1_e : iR1 a ρ = (a ρ).bind rng1 := rfl
@[simp] theorem iR2_e : iR2 a b ρ = (a ρ).bind fun x => (b ρ).bind fun y => rng2 x y := rfl
@[simp] theorem gN_e (i : Nat) (d : PyData) : gN i d ρ = .ok (ρ.set i (.fz d)) := rfl
@[simp] theorem gT_e (is : List Nat) (ds : List PyData) : gT is (.tuple ds) ρ = if ds.length = is.length then .ok (setAll is ds ρ) else .no := rfl
@[simp] theorem tYes_e : tYes ρ = .ok true := rfl
@[simp] theorem lComp_e {it : DL} {g : Tg} {vs : List Nat} : lComp it g t e vs ρ = (it ρ).bind fun ds => if ds.length ≤ lim then compGo g t e (wipeE ρ vs) ds else .no := rfl
@[simp] theorem saNil_e : saNil ρ = .ok [] := rfl
@[simp] theorem saCons_e : saCons fb ar ρ = (fb ρ).bind fun s => (frzS s).bind fun s => (ar ρ).bind fun ss => .ok (s :: ss) := rfl
@[simp] theorem dCall_e (f : DF) : dCall f ar ρ = (ar ρ).bind f := rfl
@[simp] theorem dLen_e : dLen fb ρ = (fb ρ).bind lenS := rfl
@[simp] theorem dAny_e : dAny e ρ = (e ρ).bind anyD := rfl
@[simp] theorem dAll_e : dAll e ρ = (e ρ).bind allD := rfl
@[simp] theorem lSorted_e : lSorted fb ρ = (fb ρ).bind sortS := rfl
@[simp] theorem lSSI_e : lSSI e ρ = (e ρ).bind ssetI := rfl
@[simp] theorem lSSP_e : lSSP e ρ = (e ρ).bind ssetP := rfl
@[simp] theorem dLenSet_e : dLenSet e ρ = (e ρ).bind lsetI := rfl
@[simp] theorem lList_e : lList fb ρ = (fb ρ).bind listD := rfl
@[simp] theorem dTuple_e : dTuple e ρ = (e ρ).bind tupD := rfl
@[simp] theorem dIsB_e : dIsB fb ρ = (fb ρ).bind fun s => match s with
  | .fz (.bool _) => .ok (.bool true)
  | .fz (.str _) => .ok (.bool false)
  | .fz (.list _) => .ok (.bool false)
  | .fz (.tuple _) => .ok (.bool false)
  | _ => .no := rfl
end

/-! ### data of ints -/
abbrev tupI (l : List Int) : PyData := .tuple (l.map .int)
def shN (n : Nat) (d : PyData) : Prop := d.canLay0 = true ∧ d.depth ≤ n
theorem sh_of {n : Nat} {d : PyData} (h : shN n d) (hn : n ≤ 64 := by decide) : SeqAt.shaped d = true := by
  unfold SeqAt.shaped
  rw [h.1, Bool.true_and, decide_eq_true_eq]
  exact Nat.le_trans h.2 hn
theorem sh_mono {n m : Nat} {d : PyData} (h : shN n d) (hm : n ≤ m) : shN m d := ⟨h.1, Nat.le_trans h.2 hm⟩
theorem sh_none : shN 1 .none := ⟨rfl, by decide⟩
theorem sh_bool (b : Bool) : shN 1 (.bool b) := ⟨rfl, by simp [PyData.depth]⟩
theorem sh_int (i : Int) : shN 1 (.int i) := ⟨rfl, by simp [PyData.depth]⟩
theorem sh_str (s : Str) (h : (PyData.str s).canLay0 = true) : shN 1 (.str s) := ⟨h, by simp [PyData.depth]⟩
theorem sh_all {n : Nat} : ∀ {ds : List PyData}, (∀ d ∈ ds, shN n d) → PyData.canLayAll0 ds = true ∧ PyData.depthAll ds ≤ n
  | [], _ => ⟨rfl, by simp [PyData.depthAll]⟩
  | d :: ds, h => by
    obtain ⟨h1, h2⟩ := h d List.mem_cons_self
    obtain ⟨h3, h4⟩ := sh_all (ds := ds) fun x hx => h x (List.mem_cons_of_mem _ hx)
    refine ⟨by rw [PyData.canLayAll0, h1, h3]; rfl, ?_⟩
    rw [PyData.depthAll]
    omega
theorem sh_list {n : Nat} {ds : List PyData} (h : ∀ d ∈ ds, shN n d) : shN (n + 1) (.list ds) := by
  obtain ⟨h1, h2⟩ := sh_all h
  exact ⟨by rw [PyData.canLay0]; exact h1, by rw [PyData.depth]; omega⟩
theorem sh_tuple {n : Nat} {ds : List PyData} (h : ∀ d ∈ ds, shN n d) : shN (n + 1) (.tuple ds) := by
  obtain ⟨h1, h2⟩ := sh_all h
  exact ⟨by rw [PyData.canLay0]; exact h1, by rw [PyData.depth]; omega⟩
theorem sh_map {α : Type} {n : Nat} {f : α → PyData} (h : ∀ a, shN n (f a)) (l : List α) : ∀ d ∈ l.map f, shN n d := fun d hd => by
  obtain ⟨a, _, rfl⟩ := List.mem_map.mp hd
  exact h a
theorem sh_tupI (l : List Int) : shN 2 (tupI l) := sh_tuple (sh_map sh_int l)
theorem sh_listI (l : List Int) : shN 2 (.list (l.map .int)) := sh_list (sh_map sh_int l)
theorem sh_listT (l : List (List Int)) : shN 3 (.list (l.map tupI)) := sh_list (sh_map sh_tupI l)
theorem eqv_int (i j : Int) : PyData.eqv (.int i) (.int j) = decide (i = j) := by
  rw [PyData.eqv]
  by_cases h : i = j
  · subst h; simp
  · simp [h]
theorem eqv_str (x y : Str) : PyData.eqv (.str x) (.str y) = decide (x = y) := by
  rw [PyData.eqv]
  by_cases h : x = y
  · subst h; simp
  · simp [h]
theorem eqv_all {α : Type} [DecidableEq α] {f : α → PyData} (h : ∀ a b, PyData.eqv (f a) (f b) = decide (a = b)) : ∀ x y : List α, PyData.eqvAll (x.map f) (y.map f) = decide (x = y)
  | [], [] => by simp [PyData.eqvAll]
  | [], _ :: _ => by simp [PyData.eqvAll]
  | _ :: _, [] => by simp [PyData.eqvAll]
  | a :: x, b :: y => by
    rw [List.map_cons, List.map_cons, PyData.eqvAll, h, eqv_all h x y]
    simp [Bool.decide_and]
theorem eqv_tupI (x y : List Int) : PyData.eqv (tupI x) (tupI y) = decide (x = y) := by
  unfold tupI
  rw [PyData.eqv]
  exact eqv_all eqv_int x y
theorem eqv_listI (x y : List Int) : PyData.eqv (.list (x.map .int)) (.list (y.map .int)) = decide (x = y) := by
  rw [PyData.eqv]
  exact eqv_all eqv_int x y
theorem eqv_listT (x y : List (List Int)) : PyData.eqv (.list (x.map tupI)) (.list (y.map tupI)) = decide (x = y) := by
  rw [PyData.eqv]
  exact eqv_all eqv_tupI x y
theorem eq_of {x y : PyData} {b : Bool} {n m : Nat} (h1 : shN n x) (h2 : shN m y) (h : PyData.eqv x y = b) (hn : n ≤ 64 := by decide) (hm : m ≤ 64 := by decide) : cEq x y = .ok b := by
  unfold cEq
  rw [if_pos ⟨sh_of h1 hn, sh_of h2 hm⟩, h]
theorem ne_of {x y : PyData} {b : Bool} {n m : Nat} (h1 : shN n x) (h2 : shN m y) (h : PyData.eqv x y = b) (hn : n ≤ 64 := by decide) (hm : m ≤ 64 := by decide) : cNe x y = .ok (!b) := by
  unfold cNe
  rw [if_pos ⟨sh_of h1 hn, sh_of h2 hm⟩, h]
@[simp] theorem cEq_int (i j : Int) : cEq (.int i) (.int j) = .ok (decide (i = j)) := eq_of (sh_int i) (sh_int j) (eqv_int i j)
@[simp] theorem cNe_int (i j : Int) : cNe (.int i) (.int j) = .ok (!decide (i = j)) := ne_of (sh_int i) (sh_int j) (eqv_int i j)
@[simp] theorem cEq_tup (x y : List Int) : cEq (.tuple (x.map .int)) (.tuple (y.map .int)) = .ok (decide (x = y)) := eq_of (sh_tupI x) (sh_tupI y) (eqv_tupI x y)
@[simp] theorem cNe_lst (x y : List Int) : cNe (.list (x.map .int)) (.list (y.map .int)) = .ok (!decide (x = y)) := ne_of (sh_listI x) (sh_listI y) (eqv_listI x y)
@[simp] theorem cNe_lsT (x y : List (List Int)) : cNe (.list (x.map tupI)) (.list (y.map tupI)) = .ok (!decide (x = y)) := ne_of (sh_listT x) (sh_listT y) (eqv_listT x y)
@[simp] theorem cLt_int (i j : Int) : cLt (.int i) (.int j) = .ok (decide (i < j)) := rfl
@[simp] theorem cLe_int (i j : Int) : cLe (.int i) (.int j) = .ok (decide (i ≤ j)) := rfl
@[simp] theorem cGt_int (i j : Int) : cGt (.int i) (.int j) = .ok (decide (j < i)) := rfl
@[simp] theorem cGe_int (i j : Int) : cGe (.int i) (.int j) = .ok (decide (j ≤ i)) := rfl
theorem ints_map : ∀ ns : List Int, intsOf (ns.map .int) = some ns
  | [] => rfl
  | n :: ns => by
    show (intsOf (ns.map .int)).map (n :: ·) = _
    rw [ints_map ns]; rfl
@[simp] theorem cLt_tup (x y : List Int) : cLt (.tuple (x.map .int)) (.tuple (y.map .int)) = .ok (lexLt x y) := by
  unfold cLt
  simp only [ints_map]
@[simp] theorem opAdd_int (i j : Int) : opAdd (.int i) (.int j) = .ok (.int (i + j)) := rfl
@[simp] theorem opSub_int (i j : Int) : opSub (.int i) (.int j) = .ok (.int (i - j)) := rfl
theorem opMul_int (i j : Int) (h : -(2 ^ 64) < i ∧ i < 2 ^ 64 ∨ -(2 ^ 64) < j ∧ j < 2 ^ 64) : opMul (.int i) (.int j) = .ok (.int (i * j)) := if_pos h
theorem opMod_int (i j : Int) (h : 0 < j) : opMod (.int i) (.int j) = .ok (.int (i % j)) := if_pos h
theorem opDiv_int (i j : Int) (h : 0 < j ∧ j < 1073741824) : opDiv (.int i) (.int j) = .ok (.int (i / j)) := if_pos h
theorem opAdd_tup (x y : List PyData) (h : x.length + y.length ≤ 1000000) : opAdd (.tuple x) (.tuple y) = .ok (.tuple (x ++ y)) := if_pos h
theorem opAdd_lst (x y : List PyData) (h : x.length + y.length ≤ 1000000) : opAdd (.list x) (.list y) = .ok (.list (x ++ y)) := if_pos h
@[simp] theorem atD_nat {α : Type} (xs : List α) (i : Nat) : atD xs (i : Int) = xs[i]? := by
  unfold atD
  rw [if_pos (by omega)]
  by_cases h : (i : Int) < xs.length
  · rw [if_pos h]; rfl
  · rw [if_neg h, List.getElem?_eq_none (by omega)]
@[simp] theorem atD_zero {α : Type} (xs : List α) : atD xs 0 = xs[0]? := atD_nat xs 0
@[simp] theorem atD_one {α : Type} (xs : List α) : atD xs 1 = xs[1]? := atD_nat xs 1
theorem atD_pos {α : Type} (xs : List α) (i : Int) (h : 0 ≤ i) : atD xs i = xs[i.toNat]? := by
  obtain ⟨n, rfl⟩ := Int.eq_ofNat_of_zero_le h
  exact atD_nat xs n
@[simp] theorem atD_last {α : Type} (xs : List α) : atD xs (-1) = xs.getLast? := by
  unfold atD
  rw [if_neg (by omega)]
  cases xs with
  | nil => simp
  | cons x xs =>
    rw [if_pos (by simp only [List.length_cons]; omega), List.getLast?_eq_getElem?]
    congr 1
    simp only [List.length_cons]
    omega

@[simp] theorem ixS_l (ds : List PyData) (i : Int) : ixS (.fz (.list ds)) (.int i) = ofO (atD ds i) := rfl
@[simp] theorem ixS_t (ds : List PyData) (i : Int) : ixS (.fz (.tuple ds)) (.int i) = ofO (atD ds i) := rfl
@[simp] theorem ixS_o (ds : List PyData) (i : Int) : ixS (.ow ds) (.int i) = ofO (atD ds i) := rfl
@[simp] theorem ixS_s (ns : List Int) (i : Int) : ixS (.sc ns) (.int i) = (ofO (atD ns i)).bind fun n => .ok (.int n) := rfl
@[simp] theorem ofO_some {α : Type} (a : α) : ofO (some a) = .ok a := rfl
@[simp] theorem lenS_l (ds : List PyData) : lenS (.fz (.list ds)) = .ok (.int ds.length) := rfl
@[simp] theorem lenS_t (ds : List PyData) : lenS (.fz (.tuple ds)) = .ok (.int ds.length) := rfl
@[simp] theorem lenS_o (ds : List PyData) : lenS (.ow ds) = .ok (.int ds.length) := rfl
@[simp] theorem lenS_s (ns : List Int) : lenS (.sc ns) = .ok (.int ns.length) := rfl
@[simp] theorem itS_l (ds : List PyData) : itS (.fz (.list ds)) = .ok ds := rfl
@[simp] theorem itS_t (ds : List PyData) : itS (.fz (.tuple ds)) = .ok ds := rfl
@[simp] theorem itS_o (ds : List PyData) : itS (.ow ds) = .ok ds := rfl
@[simp] theorem listD_l (ds : List PyData) : listD (.fz (.list ds)) = .ok ds := rfl
@[simp] theorem listD_t (ds : List PyData) : listD (.fz (.tuple ds)) = .ok ds := rfl
@[simp] theorem listD_o (ds : List PyData) : listD (.ow ds) = .ok ds := rfl
@[simp] theorem tupD_l (ds : List PyData) : tupD (.list ds) = .ok (.tuple ds) := rfl
@[simp] theorem truS_n : truS (.fz .none) = .ok false := rfl
@[simp] theorem truS_b (b : Bool) : truS (.fz (.bool b)) = .ok b := rfl
@[simp] theorem truS_l (ds : List PyData) : truS (.fz (.list ds)) = .ok (!ds.isEmpty) := rfl
@[simp] theorem truS_t (ds : List PyData) : truS (.fz (.tuple ds)) = .ok (!ds.isEmpty) := rfl
@[simp] theorem truS_o (ds : List PyData) : truS (.ow ds) = .ok (!ds.isEmpty) := rfl
@[simp] theorem truS_s (ns : List Int) : truS (.sc ns) = .ok (!ns.isEmpty) := rfl
@[simp] theorem frzS_f (d : PyData) : frzS (.fz d) = .ok (.fz d) := rfl
@[simp] theorem frzS_x (k : XK) : frzS (.ex k) = .ok (.ex k) := rfl
@[simp] theorem frzS_s (ns : List Int) : frzS (.sc ns) = .ok (.sc ns) := rfl
@[simp] theorem asB_b (b : Bool) : asB (.bool b) = .ok b := rfl
theorem rng1_ok (n : Int) (h1 : 0 ≤ n) (h2 : n ≤ 1000000) : rng1 (.int n) = .ok (rngD 0 n.toNat) := if_pos (by omega)
@[simp] theorem rng1_nat (n : Nat) (h : n ≤ 1000000) : rng1 (.int n) = .ok (rngD 0 n) := rng1_ok n (by omega) (by omega)
theorem rng2_ok (m n : Int) (h0 : 0 ≤ m) (h1 : m ≤ 1000000) (h2 : 0 ≤ n) (h3 : n ≤ 1000000) : rng2 (.int m) (.int n) = .ok (rngD m (n - m).toNat) := if_pos (by omega)
@[simp] theorem rngM_len (lo : Int) (n : Nat) : (rngD lo n).length = n := by simp [rngD]
theorem rngD_at {lo : Int} {n i : Nat} {d : PyData} (h : (rngD lo n)[i]? = some d) : i < n ∧ d = .int (lo + (i : Int)) := by
  unfold rngD at h
  rw [List.getElem?_map] at h
  cases e : (List.range n)[i]? with
  | none => rw [e] at h; cases h
  | some j =>
    rw [e] at h
    obtain ⟨h1, h2⟩ := List.getElem?_eq_some_iff.mp e
    rw [List.getElem_range] at h2
    subst h2
    rw [List.length_range] at h1
    have h3 : PyData.int (lo + (i : Int)) = d := Option.some.inj h
    exact ⟨h1, h3.symm⟩

/-! ### the rules of the statements: N holds of the state behind it, R of any other outcome -/
def W (o : Ou) (N : Env → Prop) (R : Ou → Prop) : Prop := match o with
  | .nx ρ => N ρ
  | o => R o
section
variable {N : Env → Prop} {R : Ou → Prop} {ρ : Env} {f g : DS}
theorem wp_seq (h : W (f ρ) (fun ρ' => W (g ρ') N R) R) : W (sSeq f g ρ) N R := by
  unfold sSeq
  cases e : f ρ <;> rw [e] at h <;> exact h
theorem wp_nx (h : N ρ) : W (sNx ρ) N R := h
theorem wp_set {i : Nat} {e : DE} {d : PyData} (he : e ρ = .ok d) (h : N (ρ.set i (.fz d))) : W (sSet i e ρ) N R := by
  unfold sSet; rw [he]; exact h
theorem wp_set_er {i : Nat} {e : DE} {k : XK} (he : e ρ = .er k) (h : R (.er k ρ)) : W (sSet i e ρ) N R := by
  unfold sSet; rw [he]; exact h
theorem wp_own {i : Nat} {l : DL} {ds : List PyData} (he : l ρ = .ok ds) (h : N (ρ.set i (.ow ds))) : W (sOwn i l ρ) N R := by
  unfold sOwn; rw [he]; exact h
theorem wp_tg {k : Tg} {e : DE} {d : PyData} {ρ' : Env} (he : e ρ = .ok d) (hg : k d ρ = .ok ρ') (h : N ρ') : W (sTg k e ρ) N R := by
  unfold sTg; rw [he, bE_ok, hg]; exact h
theorem wp_expr {e : DE} {d : PyData} (he : e ρ = .ok d) (h : N ρ) : W (sExpr e ρ) N R := by
  unfold sExpr; rw [he]; exact h
theorem wp_expr_er {e : DE} {k : XK} (he : e ρ = .er k) (h : R (.er k ρ)) : W (sExpr e ρ) N R := by
  unfold sExpr; rw [he]; exact h
theorem wp_ret {e : DE} {d : PyData} (he : e ρ = .ok d) (h : R (.rt d)) : W (sRet e ρ) N R := by
  unfold sRet; rw [he]; exact h
theorem wp_ret_er {e : DE} {k : XK} (he : e ρ = .er k) (h : R (.er k ρ)) : W (sRet e ρ) N R := by
  unfold sRet; rw [he]; exact h
theorem wp_raise {k : XK} (h : R (.er k ρ)) : W (sRaise k ρ) N R := h
theorem wp_if {t : DT} {b : Bool} (ht : t ρ = .ok b) (h1 : b = true → W (f ρ) N R) (h2 : b = false → W (g ρ) N R) : W (sIf t f g ρ) N R := by
  unfold sIf; rw [ht, bE_ok]
  cases b with
  | true => exact h1 rfl
  | false => exact h2 rfl
theorem wp_app {i : Nat} {e : DE} {d : PyData} {ds : List PyData} (hi : ρ[i]? = some (.ow ds)) (he : e ρ = .ok d) (hl : ds.length < 1000000) (h : N (ρ.set i (.ow (ds ++ [d])))) : W (sApp i e ρ) N R := by
  unfold sApp; rw [hi]; simp only [he, bE_ok]; rw [if_pos (show ds.length < lim from hl)]; exact h
theorem wp_ext {i : Nat} {l : DL} {ds es : List PyData} (hi : ρ[i]? = some (.ow ds)) (he : l ρ = .ok es) (hl : ds.length + es.length ≤ 1000000) (h : N (ρ.set i (.ow (ds ++ es)))) : W (sExt i l ρ) N R := by
  unfold sExt; rw [hi]; simp only [he, bE_ok]; rw [if_pos (show ds.length + es.length ≤ lim from hl)]; exact h
theorem wp_frz {i : Nat} {ds : List PyData} (hi : ρ[i]? = some (.ow ds)) (h : N (ρ.set i (.fz (.list ds)))) : W (sFrz i ρ) N R := by
  unfold sFrz; rw [hi]; exact h
theorem wp_frz0 {i : Nat} {s : Sl} (hi : ρ[i]? = some s) (hs : s.own = false) (h : N ρ) : W (sFrz i ρ) N R := by
  unfold sFrz; rw [hi]
  cases s with
  | ow _ => cases hs
  | _ => exact h
theorem wp_loop {k : Tg} : ∀ {ds : List PyData} {P : Nat → Env → Prop} {ρ : Env} (h0 : P 0 ρ)
    (step : ∀ i d ρ, ds[i]? = some d → P i ρ → ∃ ρ1, k d ρ = .ok ρ1 ∧ W (f ρ1) (fun ρ2 => P (i + 1) ρ2) (fun o => match o with
      | .ct ρ2 => P (i + 1) ρ2
      | .bk ρ2 => N ρ2
      | o => R o)) (fin : ∀ ρ', P ds.length ρ' → N ρ'), W (loopGo k f ds ρ) N R := by
  intro ds
  induction ds with
  | nil => intro P ρ h0 _ fin; exact fin ρ h0
  | cons d ds ih =>
    intro P ρ h0 step fin
    obtain ⟨ρ1, e1, h1⟩ := step 0 d ρ rfl h0
    have next : ∀ ρ2, P 1 ρ2 → W (loopGo k f ds ρ2) N R := fun ρ2 h2 => ih (P := fun i => P (i + 1)) h2 (fun i d' ρ' e h => step (i + 1) d' ρ' e h) fin
    unfold loopGo
    rw [e1, bE_ok]
    cases e : f ρ1 with
    | nx ρ2 => rw [e] at h1; exact next ρ2 h1
    | ct ρ2 => rw [e] at h1; exact next ρ2 h1
    | bk ρ2 => rw [e] at h1; exact h1
    | rt d => rw [e] at h1; exact h1
    | er k ρ2 => rw [e] at h1; exact h1
    | no => rw [e] at h1; exact h1
theorem wp_for {k : Tg} {it : DL} {ds : List PyData} (hi : it ρ = .ok ds) (P : Nat → Env → Prop) (h0 : P 0 ρ)
    (step : ∀ i d ρ, ds[i]? = some d → P i ρ → ∃ ρ1, k d ρ = .ok ρ1 ∧ W (f ρ1) (fun ρ2 => P (i + 1) ρ2) (fun o => match o with
      | .ct ρ2 => P (i + 1) ρ2
      | .bk ρ2 => N ρ2
      | o => R o)) (fin : ∀ ρ', P ds.length ρ' → N ρ') : W (sFor it k f ρ) N R := by
  unfold sFor; rw [hi]; exact wp_loop h0 step fin
theorem wp_while {t : DT} (I : Nat → Env → Prop) : ∀ {n : Nat} {ρ : Env} {m : Nat} (hm : m < n) (h0 : I m ρ)
    (step : ∀ m ρ, I m ρ → (t ρ = .ok false ∧ N ρ) ∨ (t ρ = .ok true ∧ W (f ρ) (fun ρ2 => ∃ m', m' < m ∧ I m' ρ2) (fun o => match o with
      | .ct ρ2 => ∃ m', m' < m ∧ I m' ρ2
      | .bk ρ2 => N ρ2
      | o => R o))), W (sWhile t f n ρ) N R := by
  intro n
  induction n with
  | zero => intro ρ m hm; exact absurd hm (Nat.not_lt_zero _)
  | succ n ih =>
    intro ρ m hm h0 step
    unfold sWhile
    rcases step m ρ h0 with ⟨e, h⟩ | ⟨e, h⟩
    · rw [e, bE_ok, if_neg Bool.false_ne_true]; exact h
    · rw [e, bE_ok, if_pos rfl]
      cases ef : f ρ with
      | nx ρ2 =>
        rw [ef] at h
        obtain ⟨m', h1, h2⟩ := h
        exact ih (by omega) h2 step
      | ct ρ2 =>
        rw [ef] at h
        obtain ⟨m', h1, h2⟩ := h
        exact ih (by omega) h2 step
      | bk ρ2 => rw [ef] at h; exact h
      | rt d => rw [ef] at h; exact h
      | er k ρ2 => rw [ef] at h; exact h
      | no => rw [ef] at h; exact h
theorem wp_try {b : DS} {ks : XK → Bool} {i j : Nat} (h : W (b ρ) N (fun o => match o with
    | .er k ρ' => if ks k = true then i < ρ'.length ∧ N ((ρ'.set i .nil).set j (.ex k)) else R (.er k ρ')
    | o => R o)) : W (sTry b ks i j ρ) N R := by
  unfold sTry
  cases e : b ρ with
  | er k ρ' =>
    rw [e] at h
    simp only [W] at h ⊢
    by_cases q : ks k = true
    · rw [if_pos q] at h ⊢
      rw [if_pos h.1]
      exact h.2
    · rw [if_neg q] at h ⊢
      exact h
  | nx ρ' => rw [e] at h; exact h
  | ct ρ' => rw [e] at h; exact h
  | bk ρ' => rw [e] at h; exact h
  | rt d => rw [e] at h; exact h
  | no => rw [e] at h; exact h
end
def ouR : Ou → Rs PyData
  | .nx _ => .ok .none
  | .rt d => .ok d
  | .er k _ => .er k
  | _ => .no
theorem wp_run {b : DS} {n : Nat} {as : List Sl} {r : Rs PyData} (ρ0 : Env) (h : W (b ρ0) (fun _ => Rs.ok PyData.none = r) (fun o => ouR o = r)) (e0 : as ++ List.replicate (n - as.length) .nil = ρ0 := by rfl) : runD b n as = r := by
  unfold runD
  rw [e0]
  cases e : b ρ0 <;> rw [e] at h <;> exact h
theorem run_ex {b : DS} {n : Nat} {as : List Sl} {Q : Rs PyData → Prop} (ρ0 : Env) (h : W (b ρ0) (fun _ => Q (.ok .none)) (fun o => Q (ouR o))) (e0 : as ++ List.replicate (n - as.length) .nil = ρ0 := by rfl) : Q (runD b n as) := by
  unfold runD
  rw [e0]
  cases e : b ρ0 <;> rw [e] at h <;> exact h
end MS

namespace MS
open PySem
/-! MsM1: what the webs' defs compute. -/
/-! ### look_web -/
def webL (n : Int) (ls : List (List Int)) : PyData := .tuple [.int n, .list (ls.map tupI)]
def okLine (n : Int) (l : List Int) : Bool := match l with
  | [a, b] => decide (0 ≤ a ∧ a < b ∧ b < n)
  | _ => false
def okStep (ls : List (List Int)) (k : Nat) : Bool := k == 0 || lexLt (ls.getD (k - 1) []) (ls.getD k [])
def okWeb (n : Int) (ls : List (List Int)) : Bool := decide (1 ≤ n ∧ n ≤ 12) && (List.range ls.length).all fun k => okLine n (ls.getD k []) && okStep ls k
theorem all_range {p : Nat → Bool} {n : Nat} : (List.range n).all p = true ↔ ∀ k, k < n → p k = true := by
  rw [List.all_eq_true]
  exact ⟨fun h k hk => h k (List.mem_range.mpr hk), fun h k hk => h k (List.mem_range.mp hk)⟩
theorem bool_if {b c : Bool} : (if b = true then Rs.ok c else Rs.ok false) = Rs.ok (b && c) := by cases b <;> rfl
theorem bool_if' {b c : Bool} : (if b = true then Rs.ok true else Rs.ok c) = Rs.ok (b || c) := by cases b <;> rfl
theorem look_web_den (n : Int) (ls : List (List Int)) (hl : ls.length ≤ 1000) : d_look_web [.fz (webL n ls)] = if okWeb n ls = true then .ok .none else .er .web := by
  refine wp_run [.fz (webL n ls), .nil, .nil, .nil] ?_
  refine wp_seq (wp_tg (d := webL n ls) (ρ' := [.fz (webL n ls), .fz (.int n), .fz (.list (ls.map tupI)), .nil]) rfl rfl ?_)
  refine wp_seq (wp_if (b := !decide (1 ≤ n ∧ n ≤ 12)) ?_ (fun hb => ?_) (fun hb => ?_))
  · by_cases h : 1 ≤ n <;> simp [h]
  · refine wp_raise ?_
    have : okWeb n ls = false := by unfold okWeb; rw [Bool.and_eq_false_iff]; exact .inl (by simp at hb ⊢; omega)
    rw [this]; rfl
  · have hn : decide (1 ≤ n ∧ n ≤ 12) = true := by simpa using hb
    refine wp_for (ds := rngD 0 ls.length) ?_ (fun i ρ => (∃ s, ρ = [.fz (webL n ls), .fz (.int n), .fz (.list (ls.map tupI)), s]) ∧ ∀ k, k < i → (okLine n (ls.getD k []) && okStep ls k) = true) ⟨⟨_, rfl⟩, by omega⟩ ?_ ?_
    · simp
      exact rng1_nat _ (by omega)
    · rintro i d ρ hd ⟨⟨s, rfl⟩, hk⟩
      obtain ⟨hi, rfl⟩ := rngD_at hd
      refine ⟨_, rfl, ?_⟩
      simp only [Int.zero_add]
      refine wp_if (b := !(okLine n (ls.getD i []) && okStep ls i)) ?_ (fun hb => ?_) (fun hb => ?_)
      · have el : ls[i]? = some ls[i] := List.getElem?_eq_getElem hi
        have eg : ls.getD i [] = ls[i] := by rw [List.getD_eq_getElem?_getD, el]; rfl
        have step : 0 < i → (ofO (atD (ls.map tupI) ((i : Int) - 1))) = .ok (tupI (ls.getD (i - 1) [])) := fun h => by
          rw [show (i : Int) - 1 = ((i - 1 : Nat) : Int) by omega, atD_nat, List.getElem?_map, List.getD_eq_getElem?_getD, List.getElem?_eq_getElem (by omega : i - 1 < ls.length)]
          rfl
        rw [eg]
        unfold okStep
        rw [eg]
        simp [el]
        generalize ls[i] = l
        match l with
        | [] => simp [okLine]
        | [a] => simp [okLine]
        | a :: b :: c :: r => simp [okLine]; omega
        | [a, b] =>
          simp [okLine]
          by_cases h0 : 0 ≤ a
          · by_cases h1 : a < b
            · by_cases h2 : b < n
              · simp [h0, h1, h2]
                by_cases h3 : 0 < i
                · simp [h3, step h3, show i ≠ 0 by omega]
                · simp [show i = 0 by omega]
              · simp [h0, h1, h2]
            · simp [h0, h1]
          · simp [h0]
      · refine wp_raise ?_
        have hb' : (okLine n (ls.getD i []) && okStep ls i) = false := by
          cases e : (okLine n (ls.getD i []) && okStep ls i) with
          | false => rfl
          | true => rw [e] at hb; cases hb
        have : okWeb n ls = false := by
          unfold okWeb
          rw [Bool.and_eq_false_iff]
          refine .inr (Bool.eq_false_iff.mpr fun h => ?_)
          rw [all_range.mp h i hi] at hb'
          cases hb'
        rw [this]; rfl
      · refine wp_nx ⟨⟨_, rfl⟩, fun k h => ?_⟩
        rcases Nat.lt_succ_iff_lt_or_eq.mp h with h | rfl
        · exact hk k h
        · simpa using hb
    · rintro ρ' ⟨⟨s, rfl⟩, hk⟩
      rw [rngM_len] at hk
      have : okWeb n ls = true := by
        unfold okWeb
        rw [hn, Bool.true_and]
        exact all_range.mpr hk
      rw [this]; rfl

/-! ### comprehensions over typed lists -/
theorem comp_t {α β : Type} {g : Tg} {t : DT} {e : DE} {ρ : Env} {f : α → PyData} {F : α → PyData} {p : α → Bool} : ∀ {xs : List α}, (∀ x ∈ xs, ∃ ρ1, g (f x) ρ = .ok ρ1 ∧ t ρ1 = .ok (p x) ∧ (p x = true → e ρ1 = .ok (F x))) → compGo g t e ρ (xs.map f) = .ok ((xs.filter p).map F)
  | [], _ => rfl
  | x :: xs, h => by
    obtain ⟨ρ1, h1, h2, h3⟩ := h x List.mem_cons_self
    have ih := comp_t (xs := xs) (β := β) fun y hy => h y (List.mem_cons_of_mem _ hy)
    rw [List.map_cons]
    unfold compGo
    simp only [h1, h2]
    cases e1 : p x with
    | true => simp only [h3 e1, ih, Rs.bind_ok, List.filter_cons, e1, if_true, List.map_cons]
    | false => simp only [ih, List.filter_cons, e1, Bool.false_eq_true, if_false]
theorem comp_a {α : Type} {g : Tg} {e : DE} {ρ : Env} {f : α → PyData} {F : α → PyData} {xs : List α} (h : ∀ x ∈ xs, ∃ ρ1, g (f x) ρ = .ok ρ1 ∧ e ρ1 = .ok (F x)) : compGo g tYes e ρ (xs.map f) = .ok (xs.map F) := by
  have := comp_t (β := α) (p := fun _ => true) (t := tYes) (e := e) (g := g) (ρ := ρ) (f := f) (F := F) (xs := xs) fun x hx => by
    obtain ⟨ρ1, h1, h2⟩ := h x hx
    exact ⟨ρ1, h1, rfl, fun _ => h2⟩
  rw [this, List.filter_eq_self.mpr fun _ _ => rfl]
theorem lcomp_t {α : Type} {it : DL} {g : Tg} {t : DT} {e : DE} {ρ ρw : Env} {vs : List Nat} {f : α → PyData} {F : α → PyData} {p : α → Bool} {xs : List α} (hi : it ρ = .ok (xs.map f)) (hw : wipeE ρ vs = ρw) (hl : xs.length ≤ 1000000) (h : ∀ x ∈ xs, ∃ ρ1, g (f x) ρw = .ok ρ1 ∧ t ρ1 = .ok (p x) ∧ (p x = true → e ρ1 = .ok (F x))) : lComp it g t e vs ρ = .ok ((xs.filter p).map F) := by
  rw [lComp_e, hi, Rs.bind_ok, if_pos (by rw [List.length_map]; exact hl), hw]
  exact comp_t (β := α) h
theorem lcomp_a {α : Type} {it : DL} {g : Tg} {e : DE} {ρ ρw : Env} {vs : List Nat} {f : α → PyData} {F : α → PyData} {xs : List α} (hi : it ρ = .ok (xs.map f)) (hw : wipeE ρ vs = ρw) (hl : xs.length ≤ 1000000) (h : ∀ x ∈ xs, ∃ ρ1, g (f x) ρw = .ok ρ1 ∧ e ρ1 = .ok (F x)) : lComp it g tYes e vs ρ = .ok (xs.map F) := by
  rw [lComp_e, hi, Rs.bind_ok, if_pos (by rw [List.length_map]; exact hl), hw]
  exact comp_a h
theorem bools_map {α : Type} (q : α → Bool) : ∀ xs : List α, boolsOf (xs.map fun x => .bool (q x)) = some (xs.map q)
  | [] => rfl
  | x :: xs => by
    show (boolsOf (xs.map fun x => .bool (q x))).map (q x :: ·) = _
    rw [bools_map q xs]; rfl
theorem allD_map {α : Type} (q : α → Bool) (xs : List α) : allD (.list (xs.map fun x => .bool (q x))) = .ok (.bool (xs.all q)) := by
  show (ofO (boolsOf (xs.map fun x => .bool (q x)))).bind _ = _
  rw [bools_map]
  simp [List.all_map]
theorem anyD_map {α : Type} (q : α → Bool) (xs : List α) : anyD (.list (xs.map fun x => .bool (q x))) = .ok (.bool (xs.any q)) := by
  show (ofO (boolsOf (xs.map fun x => .bool (q x)))).bind _ = _
  rw [bools_map]
  simp [List.any_map]
theorem inAny_int (a : Int) (ms : List Int) : inAny (.int a) (ms.map .int) = decide (a ∈ ms) := by
  unfold inAny
  rw [List.any_map]
  induction ms with
  | nil => rfl
  | cons m ms ih =>
    rw [List.any_cons, ih]
    show (PyData.eqv (.int m) (.int a) || _) = _
    rw [eqv_int]
    by_cases h : m = a
    · subst h; simp
    · simp [h, Ne.symm h]
theorem flat_ints (ms : List Int) : (ms.map PyData.int).all flatD = true := by
  rw [List.all_eq_true]
  intro d hd
  obtain ⟨i, _, rfl⟩ := List.mem_map.mp hd
  rfl
@[simp] theorem cIn_tup (a : Int) (ms : List Int) : cIn (.int a) (.fz (.tuple (ms.map .int))) = .ok (decide (a ∈ ms)) := by
  unfold cIn
  simp only []
  rw [if_pos ⟨rfl, flat_ints ms⟩, inAny_int]
@[simp] theorem cIn_lst (a : Int) (ms : List Int) : cIn (.int a) (.fz (.list (ms.map .int))) = .ok (decide (a ∈ ms)) := by
  unfold cIn
  simp only []
  rw [if_pos ⟨sh_of (sh_int a), sh_of (sh_listI ms)⟩, inAny_int]
@[simp] theorem cIn_own (a : Int) (ms : List Int) : cIn (.int a) (.ow (ms.map .int)) = .ok (decide (a ∈ ms)) := by
  unfold cIn
  simp only []
  rw [if_pos ⟨sh_of (sh_int a), sh_of (sh_listI ms)⟩, inAny_int]
theorem rngD_map (n : Nat) : rngD 0 n = (List.range n).map fun (i : Nat) => PyData.int i := by
  unfold rngD
  simp

/-! ### marks -/
def pl (p : Int × Int) : List Int := [p.1, p.2]
abbrev webP (n : Int) (ps : List (Int × Int)) : PyData := webL n (ps.map pl)
def indep (ps : List (Int × Int)) (ms : List Int) : Bool := !ps.any fun p => decide (p.1 ∈ ms) && decide (p.2 ∈ ms)
def isMarks (n : Int) (ps : List (Int × Int)) (ms : List Int) : Bool := decide (ms = upI ms) && (ms.all fun s => decide (0 ≤ s ∧ s < n)) && indep ps ms
theorem any_comp {i1 i2 j : Nat} {ρ : Env} {ms : List Int} {ps : List (Int × Int)} (h12 : i1 ≠ i2) (h1 : i1 < ρ.length) (h2 : i2 < ρ.length) (j1 : j ≠ i1) (j2 : j ≠ i2) (hj : ρ[j]? = some (.fz (tupI ms))) (hl : ps.length ≤ 1000) {it : DL} (hi : it ρ = .ok ((ps.map pl).map tupI)) :
    dAny (dLst (lComp it (gT [i1, i2]) tYes (dAnd (dT (tIn (dVar i1) (bVar j))) (dT (tIn (dVar i2) (bVar j)))) [i1, i2])) ρ = .ok (.bool (!indep ps ms)) := by
  have e : lComp it (gT [i1, i2]) tYes (dAnd (dT (tIn (dVar i1) (bVar j))) (dT (tIn (dVar i2) (bVar j)))) [i1, i2] ρ = .ok (ps.map fun p => .bool (decide (p.1 ∈ ms) && decide (p.2 ∈ ms))) := by
    rw [List.map_map] at hi
    refine lcomp_a hi rfl (by omega) fun p _ => ?_
    refine ⟨_, rfl, ?_⟩
    simp [pl, wipeE, setAll, h12, Ne.symm h12, h1, h2, hj, List.getElem?_set_ne (Ne.symm j1), List.getElem?_set_ne (Ne.symm j2)]
    by_cases h : p.1 ∈ ms <;> simp [h]
  rw [dAny_e, dLst_e, e]
  simp only [Rs.bind_ok]
  rw [anyD_map]
  unfold indep
  rw [Bool.not_not]
theorem is_marks_den (n : Int) (ps : List (Int × Int)) (ms : List Int) (hl : ps.length ≤ 1000) (hm : ms.length < 60) : d_is_marks [.fz (webP n ps), .fz (tupI ms)] = .ok (.bool (isMarks n ps ms)) := by
  refine wp_run [.fz (webP n ps), .fz (tupI ms), .nil, .nil, .nil] ?_
  have e1 : dLst (lList (bVar 1)) [.fz (webP n ps), .fz (tupI ms), .nil, .nil, .nil] = .ok (.list (ms.map .int)) := rfl
  have e2 : dLst (lSSI (dVar 1)) [.fz (webP n ps), .fz (tupI ms), .nil, .nil, .nil] = .ok (.list ((upI ms).map .int)) := by
    simp [ssetI, ints_map, hm]
  have e3 : dAll (dLst (lComp (iSeq (bVar 1)) (gN 4) tYes (dT (tCh cLe cLt (dC (.int 0)) (dVar 4) (dIx (bVar 0) (dC (.int 0))))) [4])) [.fz (webP n ps), .fz (tupI ms), .nil, .nil, .nil] = .ok (.bool (ms.all fun s => decide (0 ≤ s ∧ s < n))) := by
    have : lComp (iSeq (bVar 1)) (gN 4) tYes (dT (tCh cLe cLt (dC (.int 0)) (dVar 4) (dIx (bVar 0) (dC (.int 0))))) [4] [.fz (webP n ps), .fz (tupI ms), .nil, .nil, .nil] = .ok (ms.map fun s => .bool (decide (0 ≤ s ∧ s < n))) := by
      refine lcomp_a (f := PyData.int) rfl rfl (by omega) fun s _ => ⟨_, rfl, ?_⟩
      simp [wipeE, webL]
      by_cases h : 0 ≤ s <;> simp [h]
    rw [dAll_e, dLst_e, this]
    simp only [Rs.bind_ok]
    exact allD_map _ _
  refine wp_seq (wp_if (b := !decide (ms = upI ms) || !(ms.all fun s => decide (0 ≤ s ∧ s < n))) ?_ (fun hb => ?_) (fun hb => ?_))
  · rw [tOr_e, tCmp_e, e1, e2, tNot_e, tTru_e, bOf_e, e3]
    simp only [Rs.bind_ok, cNe_lst, truS_b]
    cases decide (ms = upI ms) <;> rfl
  · refine wp_ret rfl ?_
    have : isMarks n ps ms = false := by
      unfold isMarks
      cases h1 : decide (ms = upI ms) with
      | false => rfl
      | true =>
        rw [h1] at hb
        have hb' : (ms.all fun s => decide (0 ≤ s ∧ s < n)) = false := by simpa using hb
        rw [hb']; rfl
    rw [this]; rfl
  · refine wp_nx (wp_ret (d := .bool (indep ps ms)) ?_ ?_)
    · rw [dNot_e, any_comp (ms := ms) (ps := ps) (by decide) (by simp) (by simp) (by decide) (by decide) rfl hl (by simp [webL])]
      simp
    · have : isMarks n ps ms = indep ps ms := by
        unfold isMarks
        have h1 : decide (ms = upI ms) = true := by
          cases h : decide (ms = upI ms) with
          | true => rfl
          | false => rw [h] at hb; cases hb
        have h2 : (ms.all fun s => decide (0 ≤ s ∧ s < n)) = true := by
          cases h : (ms.all fun s => decide (0 ≤ s ∧ s < n)) with
          | true => rfl
          | false => rw [h1, h] at hb; cases hb
        rw [h1, h2]; rfl
      rw [this]; rfl
theorem law_is_marks_den (n : Int) (ps : List (Int × Int)) (ms : List Int) (hl : ps.length ≤ 1000) : d__law_is_marks [.fz (webP n ps), .fz (tupI ms)] = .ok (.bool (indep ps ms)) := by
  refine wp_run [.fz (webP n ps), .fz (tupI ms), .nil, .nil] (wp_ret (d := .bool (indep ps ms)) ?_ rfl)
  rw [dNot_e, any_comp (ms := ms) (ps := ps) (by decide) (by simp) (by simp) (by decide) (by decide) rfl hl (by simp [webL])]
  simp
/-! MsM2: all_marks, the law's sets. -/
def rngZ (lo n : Int) : List Int := (List.range (n - lo).toNat).map fun (i : Nat) => lo + (i : Int)
theorem rngZ_map (lo n : Int) : rngD lo (n - lo).toNat = (rngZ lo n).map PyData.int := by
  unfold rngD rngZ
  rw [List.map_map]
  rfl
theorem rngZ_mem {lo n s : Int} : s ∈ rngZ lo n ↔ lo ≤ s ∧ s < n := by
  unfold rngZ
  rw [List.mem_map]
  constructor
  · rintro ⟨i, hi, rfl⟩
    rw [List.mem_range] at hi
    omega
  · intro h
    exact ⟨(s - lo).toNat, List.mem_range.mpr (by omega), by omega⟩
theorem rngZ_len (lo n : Int) : (rngZ lo n).length = (n - lo).toNat := by simp [rngZ]
theorem rng0_map (n : Int) : rngD 0 n.toNat = (rngZ 0 n).map PyData.int := by
  rw [← rngZ_map, Int.sub_zero]
def first (m : List Int) : Int := match m.getLast? with
  | some x => x + 1
  | none => 0
def nextM (n : Int) (ps : List (Int × Int)) (m : List Int) : List (List Int) := ((rngZ (first m) n).filter fun s => isMarks n ps (m ++ [s])).map fun s => m ++ [s]
def allM (n : Int) (ps : List (Int × Int)) : Nat → List (List Int)
  | 0 => [[]]
  | k + 1 => (allM n ps k).flatMap (nextM n ps)
theorem allM_in {n : Int} {ps : List (Int × Int)} : ∀ {k : Nat} {m : List Int}, m ∈ allM n ps k → m.length = k ∧ ∀ s ∈ m, 0 ≤ s ∧ s < n
  | 0, m, h => by
    have : m = [] := by simpa [allM] using h
    subst this
    exact ⟨rfl, fun s hs => by simp at hs⟩
  | k + 1, m, h => by
    obtain ⟨m', h1, h2⟩ := List.mem_flatMap.mp h
    obtain ⟨s, h3, rfl⟩ := List.mem_map.mp h2
    obtain ⟨h4, h5⟩ := allM_in h1
    have h6 := (List.mem_filter.mp h3).2
    unfold isMarks at h6
    simp only [Bool.and_eq_true] at h6
    have h7 := List.all_eq_true.mp h6.1.2
    exact ⟨by simp [h4], fun x hx => of_decide_eq_true (h7 x hx)⟩
theorem first_nn {m : List Int} (h : ∀ s ∈ m, 0 ≤ s) : 0 ≤ first m := by
  unfold first
  cases e : m.getLast? with
  | none => exact Int.le_refl _
  | some x =>
    have := h x (List.mem_of_getLast? e)
    show 0 ≤ x + 1
    omega
theorem nextM_len {n : Int} {ps : List (Int × Int)} {m : List Int} (h : ∀ s ∈ m, 0 ≤ s) (hn : n ≤ 12) : (nextM n ps m).length ≤ 12 := by
  unfold nextM
  rw [List.length_map]
  refine Nat.le_trans (List.length_filter_le _ _) ?_
  rw [rngZ_len]
  have := first_nn h
  omega
theorem flat_len {α β : Type} {f : α → List β} {c : Nat} : ∀ {l : List α}, (∀ x ∈ l, (f x).length ≤ c) → (l.flatMap f).length ≤ l.length * c
  | [], _ => by simp
  | x :: l, h => by
    have h1 := h x List.mem_cons_self
    have h2 := flat_len (l := l) fun y hy => h y (List.mem_cons_of_mem _ hy)
    rw [List.flatMap_cons, List.length_append, List.length_cons, Nat.succ_mul]
    omega
theorem allM_len {n : Int} {ps : List (Int × Int)} (hn : n ≤ 12) : ∀ k, (allM n ps k).length ≤ 12 ^ k
  | 0 => by simp [allM]
  | k + 1 => by
    have h1 := allM_len (ps := ps) hn k
    have h2 := flat_len (f := nextM n ps) (c := 12) (l := allM n ps k) fun m hm => nextM_len (fun s hs => ((allM_in hm).2 s hs).1) hn
    show ((allM n ps k).flatMap (nextM n ps)).length ≤ _
    rw [Nat.pow_succ]
    exact Nat.le_trans h2 (Nat.mul_le_mul_right _ h1)
theorem opAdd_tupI (m : List Int) (s : Int) (h : m.length ≤ 1000) : opAdd (tupI m) (.tuple [.int s]) = .ok (tupI (m ++ [s])) := by
  rw [opAdd_tup _ _ (by simp; omega)]
  simp
theorem pow12 {k : Nat} (h : k ≤ 5) : 12 ^ k ≤ 248832 := by
  have : k = 0 ∨ k = 1 ∨ k = 2 ∨ k = 3 ∨ k = 4 ∨ k = 5 := by omega
  rcases this with rfl | rfl | rfl | rfl | rfl | rfl <;> decide
theorem take_flat {α β : Type} (f : α → List β) {l : List α} {i : Nat} {x : α} (h : l[i]? = some x) : (l.take (i + 1)).flatMap f = (l.take i).flatMap f ++ f x := by
  rw [List.take_add_one, h, List.flatMap_append]
  simp
theorem okWeb_n {n : Int} {ls : List (List Int)} (h : okWeb n ls = true) : 1 ≤ n ∧ n ≤ 12 := by
  unfold okWeb at h
  exact of_decide_eq_true (Bool.and_eq_true_iff.mp h).1
theorem take_len_le {α β : Type} (f : α → List β) (l : List α) (i : Nat) : ((l.take i).flatMap f).length ≤ (l.flatMap f).length := by
  conv => rhs; rw [← List.take_append_drop i l, List.flatMap_append, List.length_append]
  omega
/-! ### the law's sets -/
def nextS (n : Int) (m : List Int) : List (List Int) := ((rngZ 0 n).filter fun s => decide (m = []) || decide (first m ≤ s)).map fun s => m ++ [s]
def setsM (n : Int) : Nat → List (List Int)
  | 0 => [[]]
  | k + 1 => (setsM n k).flatMap (nextS n)
theorem nextS_len {n : Int} {m : List Int} (hn : n ≤ 12) : (nextS n m).length ≤ 12 := by
  unfold nextS
  rw [List.length_map]
  refine Nat.le_trans (List.length_filter_le _ _) ?_
  rw [rngZ_len]
  omega
theorem setsM_len {n : Int} (hn : n ≤ 12) : ∀ k, (setsM n k).length ≤ 12 ^ k
  | 0 => by simp [setsM]
  | k + 1 => by
    have h1 := setsM_len hn k
    have h2 := flat_len (f := nextS n) (c := 12) (l := setsM n k) fun m hm => nextS_len hn
    show ((setsM n k).flatMap (nextS n)).length ≤ _
    rw [Nat.pow_succ]
    exact Nat.le_trans h2 (Nat.mul_le_mul_right _ h1)
theorem setsM_in {n : Int} : ∀ {k : Nat} {m : List Int}, m ∈ setsM n k → m.length = k ∧ ∀ s ∈ m, 0 ≤ s ∧ s < n
  | 0, m, h => by
    have : m = [] := by simpa [setsM] using h
    subst this
    exact ⟨rfl, fun s hs => by simp at hs⟩
  | k + 1, m, h => by
    obtain ⟨m', h1, h2⟩ := List.mem_flatMap.mp h
    obtain ⟨s, h3, rfl⟩ := List.mem_map.mp h2
    obtain ⟨h4, h5⟩ := setsM_in h1
    have h6 := rngZ_mem.mp (List.mem_filter.mp h3).1
    refine ⟨by simp [h4], fun x hx => ?_⟩
    rcases List.mem_append.mp hx with h | h
    · exact h5 x h
    · rw [List.mem_singleton] at h
      subst h; exact h6
/-! MsM3: all_marks finds the independent sets; the numbers; the drawn web. -/
def Up (m : List Int) : Prop := m.Pairwise fun a b => a < b
theorem up_fix {m : List Int} (h : Up m) : upI m = m :=
  pw_unique (lt := fun a b => a < b) (fun a b h1 h2 => by omega) (upI_up m) h fun x => upI_mem
theorem lt_first {m : List Int} (h : Up m) {x : Int} (hx : x ∈ m) : x < first m := by
  unfold first
  rcases List.eq_nil_or_concat m with rfl | ⟨r, y, rfl⟩
  · simp at hx
  · simp only [List.concat_eq_append, List.getLast?_append, List.getLast?_singleton, Option.some_or] at hx h ⊢
    have h' := List.pairwise_append.mp h
    rcases List.mem_append.mp hx with q | q
    · have := h'.2.2 x q y (by simp)
      omega
    · have : x = y := by simpa using q
      omega
theorem up_snoc {m : List Int} {s : Int} (h : Up m) (hs : first m ≤ s) : Up (m ++ [s]) := by
  refine List.pairwise_append.mpr ⟨h, List.pairwise_singleton _ _, fun a ha b hb => ?_⟩
  have : b = s := by simpa using hb
  have := lt_first h ha
  omega
theorem rngZ_up (lo n : Int) : Up (rngZ lo n) := by
  unfold rngZ Up
  rw [List.pairwise_map]
  exact List.pairwise_lt_range.imp fun h => by omega
theorem rngZ_filter {f n : Int} (h : 0 ≤ f) : (rngZ 0 n).filter (fun s => decide (f ≤ s)) = rngZ f n :=
  pw_unique (lt := fun a b => a < b) (fun a b h1 h2 => by omega) ((rngZ_up 0 n).filter _) (rngZ_up f n) fun x => by
    rw [List.mem_filter, rngZ_mem, rngZ_mem, decide_eq_true_eq]
    omega
theorem setsM_up {n : Int} : ∀ {k : Nat} {m : List Int}, m ∈ setsM n k → Up m
  | 0, m, h => by
    have : m = [] := by simpa [setsM] using h
    subst this
    exact List.Pairwise.nil
  | k + 1, m, h => by
    obtain ⟨m', h1, h2⟩ := List.mem_flatMap.mp h
    obtain ⟨s, h3, rfl⟩ := List.mem_map.mp h2
    obtain ⟨h4, h5⟩ := List.mem_filter.mp h3
    refine up_snoc (setsM_up h1) ?_
    rcases Bool.or_eq_true_iff.mp h5 with q | q
    · have : m' = [] := of_decide_eq_true q
      subst this
      exact (rngZ_mem.mp h4).1
    · exact of_decide_eq_true q
theorem marks_up {n : Int} {ps : List (Int × Int)} {m : List Int} (h : Up m) (hr : ∀ s ∈ m, 0 ≤ s ∧ s < n) : isMarks n ps m = indep ps m := by
  unfold isMarks
  rw [up_fix h, decide_eq_true rfl, Bool.true_and]
  have : (m.all fun s => decide (0 ≤ s ∧ s < n)) = true := List.all_eq_true.mpr fun s hs => decide_eq_true (hr s hs)
  rw [this, Bool.true_and]
theorem indep_more {ps : List (Int × Int)} {m m' : List Int} (h : indep ps m = false) : indep ps (m ++ m') = false := by
  unfold indep at h ⊢
  rw [Bool.not_eq_false'] at h ⊢
  obtain ⟨p, hp, q⟩ := List.any_eq_true.mp h
  rw [Bool.and_eq_true, decide_eq_true_eq, decide_eq_true_eq] at q
  exact List.any_eq_true.mpr ⟨p, hp, by rw [Bool.and_eq_true, decide_eq_true_eq, decide_eq_true_eq]; exact ⟨List.mem_append_left _ q.1, List.mem_append_left _ q.2⟩⟩
theorem next_eq {n : Int} {ps : List (Int × Int)} {m : List Int} (h : Up m) (hr : ∀ s ∈ m, 0 ≤ s ∧ s < n) : (nextS n m).filter (indep ps) = nextM n ps m := by
  have hf : 0 ≤ first m := first_nn fun s hs => (hr s hs).1
  have e1 : (rngZ 0 n).filter (fun s => decide (m = []) || decide (first m ≤ s)) = rngZ (first m) n := by
    by_cases q : m = []
    · subst q
      exact List.filter_eq_self.mpr fun s _ => by simp
    · rw [← rngZ_filter hf]
      congr 1
      funext s
      rw [decide_eq_false q, Bool.false_or]
  unfold nextS nextM
  rw [e1, List.filter_map]
  congr 1
  refine List.filter_congr fun s hs => ?_
  have hs' := rngZ_mem.mp hs
  show indep ps (m ++ [s]) = _
  rw [marks_up (up_snoc h hs'.1) fun x hx => ?_]
  rcases List.mem_append.mp hx with q | q
  · exact hr x q
  · have : x = s := by simpa using q
    subst this
    omega
theorem allM_eq (n : Int) (ps : List (Int × Int)) : ∀ k, allM n ps k = (setsM n k).filter (indep ps)
  | 0 => by simp [allM, setsM, indep]
  | k + 1 => by
    show (allM n ps k).flatMap (nextM n ps) = ((setsM n k).flatMap (nextS n)).filter (indep ps)
    rw [allM_eq n ps k]
    have : ∀ l : List (List Int), (∀ m ∈ l, Up m ∧ ∀ s ∈ m, 0 ≤ s ∧ s < n) → (l.filter (indep ps)).flatMap (nextM n ps) = (l.flatMap (nextS n)).filter (indep ps) := by
      intro l
      induction l with
      | nil => intro _; rfl
      | cons m l ih =>
        intro h
        obtain ⟨h1, h2⟩ := h m List.mem_cons_self
        have ih' := ih fun x hx => h x (List.mem_cons_of_mem _ hx)
        rw [List.flatMap_cons, List.filter_append, ← ih', next_eq h1 h2, List.filter_cons]
        cases e : indep ps m with
        | true => rw [if_pos rfl, List.flatMap_cons]
        | false =>
          rw [if_neg Bool.false_ne_true]
          have : nextM n ps m = [] := by
            rw [← next_eq h1 h2]
            refine List.filter_eq_nil_iff.mpr fun x hx => ?_
            obtain ⟨s, _, rfl⟩ := List.mem_map.mp hx
            rw [indep_more e]
            exact Bool.false_ne_true
          rw [this, List.nil_append]
    exact this _ fun m hm => ⟨setsM_up hm, (setsM_in hm).2⟩

/-! ### the numbers -/
def cellZ (ns : List Int) (k : Int) : Int := if ns = [] then 0 else ns.getD (k % (ns.length : Int)).toNat 0
def mixZ (ns : List Int) (k : Int) : Int :=
  let x := (cellZ ns k + 104729 * (k + 1)) % 4294967291
  let y := x * 48271 % 4294967279
  (y / 64 * 69621 + y) % 4294967231
theorem law_cell_den (ns : List Int) (k : Int) : d__law_cell [.sc ns, .fz (.int k)] = .ok (.int (cellZ ns k)) := by
  refine wp_run [.sc ns, .fz (.int k)] ?_
  refine wp_seq (wp_if (b := !ns.isEmpty) rfl (fun hb => ?_) (fun hb => ?_))
  · have hne : ns ≠ [] := by
      rintro rfl
      cases hb
    have hl : 0 < (ns.length : Int) := by
      have := List.length_pos_iff.mpr hne
      omega
    refine wp_ret (d := .int (cellZ ns k)) ?_ rfl
    simp [opMod_int _ _ hl]
    have h0 : 0 ≤ k % (ns.length : Int) := Int.emod_nonneg _ (by omega)
    have h1 : k % (ns.length : Int) < ns.length := Int.emod_lt_of_pos _ hl
    rw [atD_pos _ _ h0, List.getElem?_eq_getElem (by omega)]
    unfold cellZ
    rw [if_neg hne, List.getD_eq_getElem?_getD, List.getElem?_eq_getElem (by omega)]
    rfl
  · refine wp_nx (wp_ret (d := .int (cellZ ns k)) ?_ rfl)
    have : ns = [] := by
      cases ns with
      | nil => rfl
      | cons _ _ => cases hb
    subst this
    rfl
theorem law_mix_den (ns : List Int) (k : Int) : d__law_mix [.sc ns, .fz (.int k)] = .ok (.int (mixZ ns k)) := by
  refine wp_run [.sc ns, .fz (.int k), .nil] ?_
  refine wp_seq (wp_set (d := .int ((cellZ ns k + 104729 * (k + 1)) % 4294967291)) ?_ ?_)
  · simp [law_cell_den]
    rw [opMul_int _ _ (.inl (by decide))]
    simp
    exact opMod_int _ _ (by decide)
  refine wp_seq (wp_set (d := .int ((cellZ ns k + 104729 * (k + 1)) % 4294967291 * 48271 % 4294967279)) ?_ ?_)
  · simp
    rw [opMul_int _ _ (.inr (by decide))]
    simp
    exact opMod_int _ _ (by decide)
  refine wp_ret (d := .int (mixZ ns k)) ?_ rfl
  simp
  rw [opDiv_int _ _ (by decide)]
  simp
  rw [opMul_int _ _ (.inr (by decide))]
  simp
  exact opMod_int _ _ (by decide)
theorem mixZ_nn (ns : List Int) (k : Int) : 0 ≤ mixZ ns k := Int.emod_nonneg _ (by decide)

/-! ### the drawn web -/
def tri : Nat → Nat
  | 0 => 0
  | i + 1 => tri i + (i + 1)
theorem tri_mono : ∀ {i j : Nat}, i ≤ j → tri i ≤ tri j
  | i, 0, h => by
    have : i = 0 := by omega
    subst this; exact Nat.le_refl _
  | i, j + 1, h => by
    rcases Nat.lt_or_ge i (j + 1) with q | q
    · have := tri_mono (show i ≤ j by omega)
      show tri i ≤ tri j + (j + 1)
      omega
    · have : i = j + 1 := by omega
      subst this; exact Nat.le_refl _
def InWeb (n : Int) (qs : List (Int × Int)) : Prop := ∀ q ∈ qs, 0 ≤ q.1 ∧ q.1 < q.2 ∧ q.2 < n
/-- a web as the laws draw it -/
def GoodWeb (n m : Int) (ps : List (Int × Int)) : Prop := 1 ≤ n ∧ n ≤ m ∧ InWeb n ps ∧ ps.Pairwise ltP ∧ ps.length < 60
theorem insP_len (x : Int × Int) : ∀ l, (insP x l).length ≤ l.length + 1
  | [] => by simp [insP]
  | y :: r => by
    unfold insP
    split
    · simp
    · split
      · simp
      · have := insP_len x r
        simp only [List.length_cons]
        omega
theorem upP_len : ∀ l : List (Int × Int), (upP l).length ≤ l.length
  | [] => Nat.le_refl _
  | x :: l => by
    have h1 := insP_len x (upP l)
    have h2 := upP_len l
    show (insP x (upP l)).length ≤ l.length + 1
    omega
theorem pairs_map : ∀ ps : List (Int × Int), pairsOf (ps.map prD) = some ps
  | [] => rfl
  | p :: ps => by
    unfold pairsOf
    rw [List.map_cons]
    simp only [pairs_map ps]
    rfl
theorem webP_eq (n : Int) (ps : List (Int × Int)) : webP n ps = .tuple [.int n, .list (ps.map prD)] := by
  unfold webP webL
  rw [List.map_map]
  rfl
theorem ssetP_ok {ps : List (Int × Int)} (hl : ps.length < 60) (h : ∀ p ∈ ps, 0 ≤ p.1 ∧ p.1 < 64 ∧ 0 ≤ p.2 ∧ p.2 < 64) : ssetP (.list (ps.map prD)) = .ok ((upP ps).map prD) := by
  show (ofO (pairsOf (ps.map prD))).bind _ = _
  rw [pairs_map, ofO_some, Rs.bind_ok, if_pos ⟨hl, List.all_eq_true.mpr fun p hp => decide_eq_true (h p hp)⟩]
theorem law_web_den (ns : List Int) (k : Int) (m : Int) (m1 : 1 ≤ m) (m2 : m ≤ 11) : ∃ n ps, d__law_web [.sc ns, .fz (.int k), .fz (.int m)] = .ok (webP n ps) ∧ GoodWeb n m ps := by
  refine run_ex (Q := fun r => ∃ n ps, r = .ok (webP n ps) ∧ GoodWeb n m ps) [.sc ns, .fz (.int k), .fz (.int m), .nil, .nil, .nil, .nil, .nil, .nil, .nil] ?_
  have hx0 : 0 ≤ mixZ ns k % m := Int.emod_nonneg _ (by omega)
  have hx1 : mixZ ns k % m < m := Int.emod_lt_of_pos _ (by omega)
  generalize hn : 1 + mixZ ns k % m = n
  have n1 : 1 ≤ n := by omega
  have n2 : n ≤ m := by omega
  refine wp_seq (wp_set (d := .int n) ?_ ?_)
  · simp [law_mix_den]
    rw [opMod_int _ _ (by omega)]
    simp [hn]
  generalize hw : mixZ ns (k + 1) % 5 = wy
  refine wp_seq (wp_set (d := .int wy) ?_ ?_)
  · simp [law_mix_den]
    rw [opMod_int _ _ (by omega), hw]
  refine wp_seq (wp_own (ds := []) rfl ?_)
  refine wp_seq (wp_for (ds := rngD 1 (n - 1).toNat) ?_ (fun i ρ => ∃ qs s6 s7 s8 s9, ρ = [.sc ns, .fz (.int k), .fz (.int m), .fz (.int n), .fz (.int wy), .ow (qs.map prD), s6, s7, s8, s9] ∧ InWeb n qs ∧ qs.length ≤ tri i) ⟨[], _, _, _, _, rfl, fun q hq => by simp at hq, Nat.le_refl _⟩ ?_ ?_)
  · simp
    have := rng2_ok 1 n (by omega) (by omega) (by omega) (by omega)
    simpa using this
  · rintro i d ρ hd ⟨qs, s6, s7, s8, s9, rfl, hq, hql⟩
    obtain ⟨hi, rfl⟩ := rngD_at hd
    refine ⟨_, rfl, ?_⟩
    refine wp_for (ds := rngD 0 (1 + i)) ?_ (fun j ρ => ∃ qs s7 s8 s9, ρ = [.sc ns, .fz (.int k), .fz (.int m), .fz (.int n), .fz (.int wy), .ow (qs.map prD), .fz (.int (1 + (i : Int))), s7, s8, s9] ∧ InWeb n qs ∧ qs.length ≤ tri i + j) ⟨qs, _, _, _, rfl, hq, hql⟩ ?_ ?_
    · simp
      rw [rng1_ok _ (by omega) (by omega)]
      congr 2
    · rintro j d ρ hd ⟨qs, t7, t8, t9, rfl, hq, hql⟩
      obtain ⟨hj, rfl⟩ := rngD_at hd
      refine ⟨_, rfl, ?_⟩
      simp only [Int.zero_add]
      refine wp_seq (wp_set (d := .int (mixZ ns (k + 2 + 9 * (j : Int) + (1 + (i : Int))) / 8)) ?_ ?_)
      · simp
        rw [opMul_int _ _ (.inl (by decide))]
        simp [law_mix_den]
        exact opDiv_int _ _ (by decide)
      refine wp_seq (wp_set (d := .bool (decide (wy < 2) && decide ((j : Int) = mixZ ns (k + 90 + (1 + (i : Int))) / 8 % (1 + (i : Int))))) ?_ ?_)
      · simp
        by_cases q : wy < 2
        · simp [q, law_mix_den]
          rw [opDiv_int _ _ (by decide)]
          simp
          rw [opMod_int _ _ (by omega)]
          simp
        · simp [q]
      refine wp_if (b := (decide (wy < 2) && decide ((j : Int) = mixZ ns (k + 90 + (1 + (i : Int))) / 8 % (1 + (i : Int)))) || ((decide (wy = 2) && decide ((j : Int) + 1 = 1 + (i : Int))) || (decide (2 < wy) && decide (mixZ ns (k + 2 + 9 * (j : Int) + (1 + (i : Int))) / 8 % 6 < wy - 1)))) ?_ (fun _ => ?_) (fun _ => ?_)
      · generalize (decide (wy < 2) && decide ((j : Int) = mixZ ns (k + 90 + (1 + (i : Int))) / 8 % (1 + (i : Int)))) = b1
        simp
        cases b1 with
        | true => rfl
        | false =>
          by_cases q1 : wy = 2
          · subst q1
            simp
            by_cases q2 : (j : Int) + 1 = 1 + (i : Int)
            · simp [q2]
            · simp [q2]
          · by_cases q2 : 2 < wy
            · simp [q1, q2]
              rw [opMod_int _ _ (by decide)]
              simp
            · simp [q1, q2]
      · refine wp_app (d := prD ((j : Int), 1 + (i : Int))) rfl rfl (by rw [List.length_map]; have := tri_mono (show i ≤ 10 by omega); have : tri 10 = 55 := rfl; omega) ?_
        refine ⟨qs ++ [((j : Int), 1 + (i : Int))], _, _, _, by rw [List.map_append]; rfl, fun q hq' => ?_, by rw [List.length_append, List.length_singleton]; omega⟩
        rcases List.mem_append.mp hq' with h | h
        · exact hq q h
        · have : q = ((j : Int), 1 + (i : Int)) := by simpa using h
          subst this
          refine ⟨by omega, ?_, ?_⟩ <;> simp only <;> omega
      · exact wp_nx ⟨qs, _, _, _, rfl, hq, by omega⟩
    · rintro ρ ⟨qs, t7, t8, t9, rfl, hq, hql⟩
      rw [rngM_len] at hql
      exact ⟨qs, _, _, _, _, rfl, hq, by show _ ≤ tri i + (i + 1); omega⟩
  · rintro ρ ⟨qs, s6, s7, s8, s9, rfl, hq, hql⟩
    rw [rngM_len] at hql
    have ht : tri (n - 1).toNat ≤ 55 := tri_mono (show (n - 1).toNat ≤ 10 by omega)
    -- one more line, perhaps
    have fin : ∀ qs : List (Int × Int), InWeb n qs → qs.length < 60 → W (sSeq (sFrz 5) (sRet (dTup (lCons (dVar 3) (lCons (dLst (lSSP (dVar 5))) lNil)))) [.sc ns, .fz (.int k), .fz (.int m), .fz (.int n), .fz (.int wy), .ow (qs.map prD), s6, s7, s8, s9]) (fun _ => ∃ n ps, Rs.ok PyData.none = .ok (webP n ps) ∧ GoodWeb n m ps) (fun o => ∃ n ps, ouR o = .ok (webP n ps) ∧ GoodWeb n m ps) := fun qs hq hql => by
      refine wp_seq (wp_frz rfl ?_)
      refine wp_ret (d := webP n (upP qs)) ?_ ⟨n, upP qs, rfl, n1, n2, fun q h => hq q (upP_mem.mp h), upP_up qs, Nat.lt_of_le_of_lt (upP_len qs) hql⟩
      simp
      rw [ssetP_ok hql fun p hp => by have := hq p hp; omega]
      simp [webP_eq]
    refine wp_seq (wp_if (b := decide (wy = 2) && (decide (2 < n) && decide (mixZ ns (k + 99) % 2 = 0))) ?_ (fun hb => ?_) (fun _ => ?_))
    · simp
      by_cases q1 : wy = 2
      · by_cases q2 : 2 < n
        · simp [q1, q2, law_mix_den]
          rw [opMod_int _ _ (by decide)]
          simp
        · simp [q1, q2]
      · simp [q1]
    · refine wp_app (d := prD (0, n - 1)) rfl rfl (by rw [List.length_map]; omega) ?_
      have hb2 : 2 < n := by
        rw [Bool.and_eq_true, Bool.and_eq_true, decide_eq_true_eq, decide_eq_true_eq] at hb
        exact hb.2.1
      have e : (qs.map prD ++ [prD (0, n - 1)]) = (qs ++ [(0, n - 1)]).map prD := by rw [List.map_append]; rfl
      rw [e]
      refine fin (qs ++ [(0, n - 1)]) (fun q hq' => ?_) (by rw [List.length_append, List.length_singleton]; omega)
      rcases List.mem_append.mp hq' with h | h
      · exact hq q h
      · have : q = (0, n - 1) := by simpa using h
        subst this
        refine ⟨Int.le_refl _, ?_, ?_⟩ <;> simp only <;> omega
    · exact wp_nx (fin qs hq (by omega))
/-! MsM4: refusals, spoilt webs, drawn marks. -/
theorem lex2 (a b c d : Int) : lexLt [a, b] [c, d] = decide (a < c ∨ a = c ∧ b < d) := by
  unfold lexLt
  by_cases h : a = c
  · subst h
    rw [if_pos rfl]
    unfold lexLt
    by_cases q : b = d
    · subst q
      rw [if_pos rfl]
      simp [lexLt]
    · rw [if_neg q]
      simp
  · rw [if_neg h]
    simp [h]
theorem good_ok {n m : Int} {ps : List (Int × Int)} (h : GoodWeb n m ps) (hm : m ≤ 12) : okWeb n (ps.map pl) = true := by
  obtain ⟨h1, h2, h3, h4, h5⟩ := h
  unfold okWeb
  rw [Bool.and_eq_true, decide_eq_true_eq]
  refine ⟨⟨h1, by omega⟩, all_range.mpr fun k hk => ?_⟩
  rw [List.length_map] at hk
  have ek : (ps.map pl).getD k [] = pl ps[k] := by rw [List.getD_eq_getElem?_getD, List.getElem?_map, List.getElem?_eq_getElem hk]; rfl
  rw [Bool.and_eq_true]
  constructor
  · rw [ek]
    have := h3 ps[k] (List.getElem_mem hk)
    unfold okLine pl
    simp only [decide_eq_true_eq]
    omega
  · unfold okStep
    cases k with
    | zero => rfl
    | succ k =>
      have ek2 : (ps.map pl).getD k [] = pl ps[k] := by rw [List.getD_eq_getElem?_getD, List.getElem?_map, List.getElem?_eq_getElem (by omega)]; rfl
      rw [ek, show k + 1 - 1 = k by omega, ek2]
      have := List.pairwise_iff_getElem.mp h4 k (k + 1) (by omega) hk (by omega)
      unfold pl
      rw [lex2, decide_eq_true this]
      simp
theorem look_marks_den (n : Int) (ps : List (Int × Int)) (ms : List Int) (hok : okWeb n (ps.map pl) = true) (hl : ps.length ≤ 1000) (hm : ms.length < 60) : d_look_marks [.fz (webP n ps), .fz (tupI ms)] = if isMarks n ps ms = true then .ok .none else .er .marks := by
  refine wp_run [.fz (webP n ps), .fz (tupI ms)] ?_
  refine wp_seq (wp_expr (d := .none) ?_ ?_)
  · simp [look_web_den n (ps.map pl) (by simpa using hl), hok]
  refine wp_if (b := !isMarks n ps ms) ?_ (fun hb => ?_) (fun hb => ?_)
  · simp [is_marks_den n ps ms hl hm]
  · have : isMarks n ps ms = false := by simpa using hb
    rw [this]
    exact wp_raise rfl
  · have : isMarks n ps ms = true := by simpa using hb
    rw [this]
    exact wp_nx rfl
/-! a spoilt web is refused by each -/
section
variable {n : Int} {ls : List (List Int)} (hok : okWeb n ls = false) (hl : ls.length ≤ 1000)
include hok hl
theorem look_web_bad : d_look_web [.fz (webL n ls)] = .er .web := by
  rw [look_web_den n ls hl, hok]
  rfl
theorem look_marks_bad (t : PyData) : d_look_marks [.fz (webL n ls), .fz t] = .er .web := by
  refine wp_run [.fz (webL n ls), .fz t] ?_
  refine wp_seq (wp_expr_er (k := .web) ?_ rfl)
  simp [look_web_bad hok hl]
end
theorem refusal_den (k : XK) : d__law_refusal [.ex k] = .ok (.str (kName k)) := by
  cases k <;> rfl
/-! MsM5: spoilt webs, drawn marks. -/
theorem bad_line {n : Int} {ls : List (List Int)} {k : Nat} (hk : k < ls.length) (h : okLine n (ls.getD k []) = false) : okWeb n ls = false := by
  unfold okWeb
  rw [Bool.and_eq_false_iff]
  refine .inr (Bool.eq_false_iff.mpr fun q => ?_)
  have := all_range.mp q k hk
  rw [h] at this
  cases this
theorem bad_step {n : Int} {ls : List (List Int)} {k : Nat} (hk : k < ls.length) (h : okStep ls k = false) : okWeb n ls = false := by
  unfold okWeb
  rw [Bool.and_eq_false_iff]
  refine .inr (Bool.eq_false_iff.mpr fun q => ?_)
  have := all_range.mp q k hk
  rw [h, Bool.and_false] at this
  cases this
theorem bad_n {n : Int} {ls : List (List Int)} (h : ¬ (1 ≤ n ∧ n ≤ 12)) : okWeb n ls = false := by
  unfold okWeb
  rw [decide_eq_false h]
  rfl
theorem sIx_nat (n d i : Nat) (h : i ≤ n) : sIx n d (some (i : Int)) = i := by
  show (if (i : Int) < 0 then ((i : Int) + (n : Int)).toNat else min (i : Int).toNat n) = i
  rw [if_neg (by omega), Int.toNat_natCast, Nat.min_eq_left h]
theorem cut_to {α : Type} (xs : List α) (i : Nat) (h : i ≤ xs.length) : cutD xs none (some (i : Int)) = xs.take i := by
  unfold cutD
  rw [sIx_nat _ _ _ h]
  show (xs.drop 0).take (i - 0) = _
  simp
theorem cut_from {α : Type} (xs : List α) (i : Nat) (h : i ≤ xs.length) : cutD xs (some (i : Int)) none = xs.drop i := by
  unfold cutD
  rw [sIx_nat _ _ _ h]
  show (xs.drop i).take (xs.length - i) = _
  rw [List.take_of_length_le (by simp)]
theorem cut_last {α : Type} (xs : List α) : cutD xs (some (-1)) none = xs.drop (xs.length - 1) := by
  unfold cutD
  have : sIx xs.length 0 (some (-1)) = xs.length - 1 := by
    show (if (-1 : Int) < 0 then ((-1 : Int) + (xs.length : Int)).toNat else min (-1 : Int).toNat xs.length) = _
    rw [if_pos (by decide)]
    omega
  rw [this]
  show (xs.drop (xs.length - 1)).take (xs.length - (xs.length - 1)) = _
  rw [List.take_of_length_le (by simp)]
theorem at5 {α : Type} {a b c d e : α} {P : α → Prop} {i : Int} (h0 : 0 ≤ i) (h1 : i < 5) (ha : P a) (hb : P b) (hc : P c) (hd : P d) (he : P e) : ∃ x, atD [a, b, c, d, e] i = some x ∧ P x := by
  have : i = 0 ∨ i = 1 ∨ i = 2 ∨ i = 3 ∨ i = 4 := by omega
  rcases this with rfl | rfl | rfl | rfl | rfl
  · exact ⟨a, rfl, ha⟩
  · exact ⟨b, rfl, hb⟩
  · exact ⟨c, rfl, hc⟩
  · exact ⟨d, rfl, hd⟩
  · exact ⟨e, rfl, he⟩
theorem at4 {α : Type} {a b c d : α} {P : α → Prop} {i : Int} (h0 : 0 ≤ i) (h1 : i < 4) (ha : P a) (hb : P b) (hc : P c) (hd : P d) : ∃ x, atD [a, b, c, d] i = some x ∧ P x := by
  have : i = 0 ∨ i = 1 ∨ i = 2 ∨ i = 3 := by omega
  rcases this with rfl | rfl | rfl | rfl
  · exact ⟨a, rfl, ha⟩
  · exact ⟨b, rfl, hb⟩
  · exact ⟨c, rfl, hc⟩
  · exact ⟨d, rfl, hd⟩
theorem at3 {α : Type} {a b c : α} {P : α → Prop} {i : Int} (h0 : 0 ≤ i) (h1 : i < 3) (ha : P a) (hb : P b) (hc : P c) : ∃ x, atD [a, b, c] i = some x ∧ P x := by
  have : i = 0 ∨ i = 1 ∨ i = 2 := by omega
  rcases this with rfl | rfl | rfl
  · exact ⟨a, rfl, ha⟩
  · exact ⟨b, rfl, hb⟩
  · exact ⟨c, rfl, hc⟩
/-! MsM6: drawn marks. -/
theorem sortD_ints {ms : List Int} (hl : ms.length ≤ 1000000) : sortD (ms.map .int) = .ok ((sortZ ms).map .int) := by
  unfold sortD
  have ok : sortOk (ms.map .int) = true := by
    unfold sortOk
    simp only [Bool.and_eq_true, Bool.or_eq_true]
    refine ⟨⟨?_, .inr ?_⟩, ?_⟩
    · refine List.all_eq_true.mpr fun d hd => List.all_eq_true.mpr fun d' hd' => ?_
      obtain ⟨i, _, rfl⟩ := List.mem_map.mp hd
      obtain ⟨j, _, rfl⟩ := List.mem_map.mp hd'
      rfl
    · refine List.all_eq_true.mpr fun d hd => ?_
      obtain ⟨i, _, rfl⟩ := List.mem_map.mp hd
      rfl
    · refine List.all_eq_true.mpr fun d hd => ?_
      obtain ⟨i, _, rfl⟩ := List.mem_map.mp hd
      rfl
  rw [if_pos ⟨by rw [List.length_map]; exact hl, ok⟩]
  congr 1
  unfold sortZ
  refine (List.map_mergeSort fun a _ b _ => ?_).symm
  have := congrFun (congrFun (PySem.W.dataLe_int (fun b : Int => b)) a) b
  exact this.symm
theorem sortZ_perm (ms : List Int) : (sortZ ms).Perm ms := List.mergeSort_perm _ _
theorem sortZ_le (ms : List Int) : (sortZ ms).Pairwise fun a b => a ≤ b := by
  have := List.pairwise_mergeSort (le := fun a b : Int => decide (a ≤ b)) (fun a b c h1 h2 => by simp at *; omega) (fun a b => by simp; omega) ms
  exact this.imp fun h => of_decide_eq_true h
theorem sortZ_up {ms : List Int} (h : ms.Nodup) : Up (sortZ ms) := by
  have hn : (sortZ ms).Nodup := (sortZ_perm ms).nodup_iff.mpr h
  exact ((sortZ_le ms).and (List.nodup_iff_pairwise_ne.mp hn)).imp fun ⟨h1, h2⟩ => by omega
theorem Up.nodup {m : List Int} (h : Up m) : m.Nodup := List.nodup_iff_pairwise_ne.mpr (h.imp fun q => by omega)
theorem indep_mem {ps : List (Int × Int)} {m m' : List Int} (h : ∀ x, x ∈ m ↔ x ∈ m') : indep ps m = indep ps m' := by
  unfold indep
  congr 2
  funext p
  rw [decide_eq_decide.mpr (h p.1), decide_eq_decide.mpr (h p.2)]
/-- marks that may stand on the web -/
def GoodMarks (n : Int) (ps : List (Int × Int)) (ms : List Int) : Prop := Up ms ∧ (∀ s ∈ ms, 0 ≤ s ∧ s < n) ∧ indep ps ms = true
theorem law_marks_den {n m : Int} {ps : List (Int × Int)} (h : GoodWeb n m ps) (hm : m ≤ 11) (ns : List Int) (k : Int) (z : Nat) (hz : z ≤ 20) : ∃ ms, d__law_marks [.sc ns, .fz (.int k), .fz (webP n ps), .fz (.int z)] = .ok (tupI ms) ∧ GoodMarks n ps ms ∧ ms.length ≤ z := by
  refine run_ex (Q := fun r => ∃ ms, r = .ok (tupI ms) ∧ GoodMarks n ps ms ∧ ms.length ≤ z) [.sc ns, .fz (.int k), .fz (webP n ps), .fz (.int z), .nil, .nil, .nil, .nil] ?_
  obtain ⟨g1, g2, g3, g4, g5⟩ := h
  refine wp_seq (wp_set (d := tupI []) rfl ?_)
  have hx0 : 0 ≤ mixZ ns k % ((z : Int) + 1) := Int.emod_nonneg _ (by omega)
  have hx1 : mixZ ns k % ((z : Int) + 1) < (z : Int) + 1 := Int.emod_lt_of_pos _ (by omega)
  obtain ⟨c, hc⟩ := Int.eq_ofNat_of_zero_le hx0
  refine wp_seq (wp_for (ds := rngD 0 c) ?_ (fun i ρ => ∃ ms s5 s6 s7, ρ = [.sc ns, .fz (.int k), .fz (webP n ps), .fz (.int z), .fz (tupI ms), s5, s6, s7] ∧ GoodMarks n ps ms ∧ ms.length ≤ i) ⟨[], _, _, _, rfl, ⟨List.Pairwise.nil, fun s hs => by simp at hs, by simp [indep]⟩, Nat.le_refl _⟩ ?_ ?_)
  · simp [law_mix_den, opMod_int _ _ (show (0 : Int) < (z : Int) + 1 by omega), hc]
    exact rng1_nat c (by omega)
  · rintro i d ρ hd ⟨ms, s5, s6, s7, rfl, ⟨u1, u2, u3⟩, hl⟩
    obtain ⟨hi, rfl⟩ := rngD_at hd
    refine ⟨_, rfl, ?_⟩
    simp only [Int.zero_add]
    generalize hfree : ((rngZ 0 n).filter fun s => !decide (s ∈ ms) && indep ps (ms ++ [s])) = free
    have ec : ∀ ρw : Env, ρw = [.sc ns, .fz (.int k), .fz (webP n ps), .fz (.int z), .fz (tupI ms), .fz (.int i), s6, s7] → lComp (iR1 (dIx (bVar 2) (dC (.int 0)))) (gN 7) (tAnd (tNin (dVar 7) (bVar 4)) (tTru (bOf (dCall d__law_is_marks (saCons (bVar 2) (saCons (bOf (dBin opAdd (dVar 4) (dTup (lCons (dVar 7) lNil)))) saNil)))))) (dVar 7) [7] ρw = .ok (free.map PyData.int) := by
      rintro _ rfl
      rw [← hfree]
      refine lcomp_t (f := PyData.int) ?_ rfl ?_ fun s hs => ⟨_, rfl, ?_, fun _ => rfl⟩
      · rw [← rng0_map]
        simp [webL]
        exact rng1_ok _ (by omega) (by omega)
      · rw [rngZ_len]; omega
      · simp [opAdd_tupI ms s (by omega), law_is_marks_den n ps (ms ++ [s]) (by omega), wipeE]
        by_cases q : s ∈ ms <;> simp [q]
    refine wp_seq (wp_set (d := .list (free.map PyData.int)) ?_ ?_)
    · rw [dLst_e, ec ([Sl.sc ns, .fz (.int k), .fz (webP n ps), .fz (.int z), .fz (tupI ms), s5, s6, s7].set 5 (.fz (.int i))) rfl]
      rfl
    refine wp_if (b := !decide (free = [])) ?_ (fun hb => ?_) (fun _ => wp_nx ⟨ms, _, _, _, rfl, ⟨u1, u2, u3⟩, by omega⟩)
    · have := cNe_lst free []
      simp only [List.map_nil] at this
      simp [this]
    · have hne : free ≠ [] := by
        intro q
        rw [q] at hb
        cases hb
      have hfl : 0 < (free.length : Int) := by
        have := List.length_pos_iff.mpr hne
        omega
      have hj0 : 0 ≤ mixZ ns (k + 1 + (i : Int)) / 4 % (free.length : Int) := Int.emod_nonneg _ (by omega)
      have hj1 : mixZ ns (k + 1 + (i : Int)) / 4 % (free.length : Int) < free.length := Int.emod_lt_of_pos _ hfl
      obtain ⟨j, hj⟩ := Int.eq_ofNat_of_zero_le hj0
      have hjl : j < free.length := by omega
      have hx : free[j] ∈ free := List.getElem_mem hjl
      have hget : free[j]? = some free[j] := List.getElem?_eq_getElem hjl
      generalize free[j] = x at *
      rw [← hfree] at hx
      obtain ⟨f1, f2⟩ := List.mem_filter.mp hx
      rw [Bool.and_eq_true, Bool.not_eq_true', decide_eq_false_iff_not] at f2
      have fx := rngZ_mem.mp f1
      refine wp_set (d := tupI (sortZ (ms ++ [x]))) ?_ ⟨sortZ (ms ++ [x]), _, _, _, rfl, ⟨?_, fun s hs => ?_, ?_⟩, ?_⟩
      · have o1 : opAdd (tupI ms) (.tuple [.int x]) = .ok (tupI (ms ++ [x])) := opAdd_tupI ms x (by omega)
        have o2 : sortS (.fz (tupI (ms ++ [x]))) = .ok ((sortZ (ms ++ [x])).map .int) := sortD_ints (by simp; omega)
        have e1 : dIx (bVar 6) (dBin opMod (dBin opDiv (dCall d__law_mix (saCons (bVar 0) (saCons (bOf (dBin opAdd (dBin opAdd (dVar 1) (dC (.int 1))) (dVar 5))) saNil))) (dC (.int 4))) (dLen (bVar 6))) (([Sl.sc ns, .fz (.int k), .fz (webP n ps), .fz (.int z), .fz (tupI ms), s5, s6, s7].set 5 (.fz (.int i))).set 6 (.fz (.list (free.map PyData.int)))) = .ok (.int x) := by
          simp [law_mix_den, opDiv_int, opMod_int _ _ hfl, hj, hget]
        rw [dTuple_e, dLst_e, lSorted_e, bOf_e, dBin_e, dTup_e, lCons_e, e1]
        simp [o1, o2]
      · refine sortZ_up ?_
        rw [List.nodup_append]
        exact ⟨u1.nodup, by simp, fun a ha b hb' => by
          have : b = x := by simpa using hb'
          subst this
          intro q
          subst q
          exact f2.1 ha⟩
      · have := (sortZ_perm (ms ++ [x])).mem_iff.mp hs
        rcases List.mem_append.mp this with q | q
        · exact u2 s q
        · have : s = x := by simpa using q
          subst this
          exact fx
      · rw [indep_mem fun y => (sortZ_perm (ms ++ [x])).mem_iff]
        exact f2.2
      · rw [(sortZ_perm (ms ++ [x])).length_eq]
        simp
        omega
  · rintro ρ ⟨ms, s5, s6, s7, rfl, hg, hl⟩
    rw [rngM_len] at hl
    exact wp_ret rfl ⟨ms, rfl, hg, by omega⟩
/-! MsM7: what stands beside each spot; the parts. -/
def Adj (ps : List (Int × Int)) (x y : Int) : Prop := (x, y) ∈ ps ∨ (y, x) ∈ ps
theorem Adj.symm {ps : List (Int × Int)} {x y : Int} (h : Adj ps x y) : Adj ps y x := h.elim .inr .inl
theorem beside_mem {i y : Int} : ∀ {ps : List (Int × Int)}, y ∈ besideL i ps ↔ Adj ps i y
  | [] => by simp [besideL, Adj]
  | (a, b) :: r => by
    unfold besideL
    rw [List.mem_append, List.mem_append, beside_mem (ps := r)]
    unfold Adj
    simp only [List.mem_cons, Prod.mk.injEq]
    constructor
    · rintro ((h | h) | h | h)
      · split at h
        · rename_i q; simp at h; exact .inl (.inl ⟨q.symm, h⟩)
        · simp at h
      · split at h
        · rename_i q; simp at h; exact .inr (.inl ⟨h, q.symm⟩)
        · simp at h
      · exact .inl (.inr h)
      · exact .inr (.inr h)
    · rintro ((⟨h1, h2⟩ | h) | ⟨h1, h2⟩ | h)
      · exact .inl (.inl (by rw [if_pos h1.symm, h2]; simp))
      · exact .inr (.inl h)
      · exact .inl (.inr (by rw [if_pos h2.symm, h1]; simp))
      · exact .inr (.inr h)
theorem beside_nodup {i : Int} : ∀ {ps : List (Int × Int)}, ps.Pairwise ltP → (∀ q ∈ ps, q.1 < q.2) → (besideL i ps).Nodup
  | [], _, _ => List.nodup_nil
  | (a, b) :: r, h, hq => by
    obtain ⟨h1, h2⟩ := List.pairwise_cons.mp h
    have hab : a < b := hq (a, b) List.mem_cons_self
    have ih := beside_nodup (i := i) h2 fun q hq' => hq q (List.mem_cons_of_mem _ hq')
    have nb : a = i → b ∉ besideL i r := fun e hb => by
      rcases beside_mem.mp hb with q | q
      · have := h1 _ q
        unfold ltP at this
        omega
      · have := hq _ (List.mem_cons_of_mem _ q)
        simp only at this
        omega
    have na : b = i → a ∉ besideL i r := fun e hb => by
      rcases beside_mem.mp hb with q | q
      · have := hq _ (List.mem_cons_of_mem _ q)
        simp only at this
        omega
      · have := h1 _ q
        unfold ltP at this
        omega
    unfold besideL
    by_cases e1 : a = i
    · have e2 : ¬ b = i := by omega
      rw [if_pos e1, if_neg e2, List.append_nil]
      exact List.nodup_cons.mpr ⟨nb e1, ih⟩
    · by_cases e2 : b = i
      · rw [if_neg e1, if_pos e2, List.nil_append]
        exact List.nodup_cons.mpr ⟨na e2, ih⟩
      · rw [if_neg e1, if_neg e2]
        exact ih
theorem addAt_len (dss : List (List Int)) (i : Nat) (x : Int) : (addAt dss i x).length = dss.length := by
  unfold addAt
  rw [List.length_set]
theorem addAt_get {dss : List (List Int)} {i j : Nat} {x : Int} (h : j < dss.length) : (addAt dss i x).getD j [] = dss.getD j [] ++ (if i = j then [x] else []) := by
  unfold addAt
  rw [List.getD_eq_getElem?_getD, List.getElem?_set]
  by_cases e : i = j
  · subst e
    rw [if_pos rfl, if_pos h, if_pos rfl]
    rfl
  · rw [if_neg e, if_neg e, List.append_nil, List.getD_eq_getElem?_getD]
theorem nearGo_len : ∀ (ps : List (Int × Int)) (dss : List (List Int)), (nearGo ps dss).length = dss.length
  | [], _ => rfl
  | (a, b) :: r, dss => by
    unfold nearGo
    rw [nearGo_len r, addAt_len, addAt_len]
theorem nearGo_get {j : Nat} : ∀ {ps : List (Int × Int)} {dss : List (List Int)}, (∀ q ∈ ps, 0 ≤ q.1 ∧ 0 ≤ q.2) → j < dss.length → (nearGo ps dss).getD j [] = dss.getD j [] ++ besideL (j : Int) ps
  | [], dss, _, _ => by unfold nearGo besideL; rw [List.append_nil]
  | (a, b) :: r, dss, h, hj => by
    obtain ⟨ha, hb⟩ := h (a, b) List.mem_cons_self
    simp only at ha hb
    unfold nearGo besideL
    rw [nearGo_get (fun q hq => h q (List.mem_cons_of_mem _ hq)) (by rw [addAt_len, addAt_len]; exact hj), addAt_get (by rw [addAt_len]; exact hj), addAt_get hj, List.append_assoc, List.append_assoc, List.append_assoc]
    have e1 : (if a.toNat = j then [b] else []) = if a = (j : Int) then [b] else [] := by
      by_cases q : a = (j : Int)
      · rw [if_pos q, if_pos (by omega)]
      · rw [if_neg q, if_neg (by omega)]
    have e2 : (if b.toNat = j then [a] else []) = if b = (j : Int) then [a] else [] := by
      by_cases q : b = (j : Int)
      · rw [if_pos q, if_pos (by omega)]
      · rw [if_neg q, if_neg (by omega)]
    rw [e1, e2]
/-- the sorted neighbours -/
def nbr (ps : List (Int × Int)) (i : Int) : List Int := sortZ (besideL i ps)
def nearM (n : Int) (ps : List (Int × Int)) : List (List Int) := (List.range n.toNat).map fun (i : Nat) => nbr ps i
theorem nbr_mem {ps : List (Int × Int)} {i y : Int} : y ∈ nbr ps i ↔ Adj ps i y := by
  unfold nbr
  rw [(sortZ_perm _).mem_iff, beside_mem]
theorem nbr_up {ps : List (Int × Int)} (h : ps.Pairwise ltP) (hq : ∀ q ∈ ps, q.1 < q.2) (i : Int) : Up (nbr ps i) := sortZ_up (beside_nodup h hq)
abbrev lstI (l : List Int) : PyData := .list (l.map .int)
theorem nearGo_near {n : Int} {ps : List (Int × Int)} (hq : ∀ q ∈ ps, 0 ≤ q.1 ∧ 0 ≤ q.2) : (nearGo ps (List.replicate n.toNat [])).map sortZ = nearM n ps := by
  have hl : (nearGo ps (List.replicate n.toNat [])).length = n.toNat := by rw [nearGo_len, List.length_replicate]
  apply List.ext_getElem
  · simp [nearM, hl]
  · intro i h1 h2
    have hi : i < n.toNat := by simpa [nearM] using h2
    have := nearGo_get (j := i) (dss := List.replicate n.toNat []) hq (by simpa using hi)
    rw [List.getD_eq_getElem?_getD, List.getElem?_eq_getElem (by omega)] at this
    simp only [Option.getD_some] at this
    have e : (nearM n ps)[i] = nbr ps i := by simp [nearM]
    rw [List.getElem_map, e, this]
    unfold nbr
    congr 1
    rw [List.getD_eq_getElem?_getD, List.getElem?_replicate, if_pos hi]
    rfl
theorem beside_len {i : Int} : ∀ ps : List (Int × Int), (besideL i ps).length ≤ 2 * ps.length
  | [] => by simp [besideL]
  | (a, b) :: r => by
    unfold besideL
    have := beside_len (i := i) r
    rw [List.length_append, List.length_append, List.length_cons]
    have h1 : (if a = i then [b] else []).length ≤ 1 := by split <;> simp
    have h2 : (if b = i then [a] else []).length ≤ 1 := by split <;> simp
    omega
theorem near_den {n m : Int} {ps : List (Int × Int)} (h : GoodWeb n m ps) (hm : m ≤ 12) : d_near [.fz (webP n ps)] = .ok (.list ((nearM n ps).map lstI)) := by
  obtain ⟨g1, g2, g3, g4, g5⟩ := h
  have hq : ∀ q ∈ ps, 0 ≤ q.1 ∧ 0 ≤ q.2 := fun q hq => by have := g3 q hq; omega
  refine wp_run [.fz (webP n ps), .nil, .nil, .nil, .nil, .nil] ?_
  refine wp_seq ?_
  have e1 : sNear 0 1 2 3 [.fz (webP n ps), .nil, .nil, .nil, .nil, .nil] = .nx [.fz (webP n ps), .fz (.list ((nearGo ps (List.replicate n.toNat [])).map lstI)), .nil, .nil, .nil, .nil] := by
    unfold sNear
    rw [webP_eq]
    simp only [List.getElem?_cons_zero, pairs_map]
    rw [if_pos ⟨⟨by omega, by omega, by omega, List.all_eq_true.mpr fun p hp => decide_eq_true (by have := g3 p hp; omega)⟩, by simp [Sl.own], by simp, by simp, by simp⟩]
    rfl
  rw [e1]
  show W (sRet _ _) _ _
  refine wp_ret (d := .list ((nearM n ps).map lstI)) ?_ rfl
  have : lComp (iSeq (bVar 1)) (gN 5) tYes (dLst (lSorted (bVar 5))) [5] [.fz (webP n ps), .fz (.list ((nearGo ps (List.replicate n.toNat [])).map lstI)), .nil, .nil, .nil, .nil] = .ok ((nearGo ps (List.replicate n.toNat [])).map fun l => lstI (sortZ l)) := by
    refine lcomp_a (f := lstI) rfl rfl (by rw [nearGo_len, List.length_replicate]; omega) fun l hl => ⟨_, rfl, ?_⟩
    have hll : l.length ≤ 1000 := by
      obtain ⟨i, hi, rfl⟩ := List.mem_iff_getElem.mp hl
      have hi' : i < n.toNat := by rw [nearGo_len, List.length_replicate] at hi; exact hi
      have := nearGo_get (j := i) (dss := List.replicate n.toNat []) hq (by simpa using hi')
      rw [List.getD_eq_getElem?_getD, List.getElem?_eq_getElem hi, List.getD_eq_getElem?_getD, List.getElem?_replicate, if_pos hi'] at this
      simp only [Option.getD_some, List.nil_append] at this
      rw [this]
      have := beside_len (i := (i : Int)) ps
      omega
    have o : sortS (.fz (lstI l)) = .ok ((sortZ l).map .int) := sortD_ints (by omega)
    simp [wipeE, o]
  rw [dLst_e, this, ← nearGo_near hq, List.map_map]
  rfl
/-! MsM8: the parts. -/
theorem nodup_le : ∀ {l m : List Int}, l.Nodup → (∀ x ∈ l, x ∈ m) → l.length ≤ m.length
  | [], _, _, _ => Nat.zero_le _
  | x :: l, m, h, hs => by
    obtain ⟨h1, h2⟩ := List.nodup_cons.mp h
    have hx := hs x List.mem_cons_self
    have ih := nodup_le (m := m.erase x) h2 fun y hy => (List.mem_erase_of_ne (by rintro rfl; exact h1 hy)).mpr (hs y (List.mem_cons_of_mem _ hy))
    rw [List.length_erase_of_mem hx] at ih
    have := List.length_pos_of_mem hx
    rw [List.length_cons]
    omega
inductive Rch (nb : Int → List Int) (S : List Int) : Int → Int → Prop
  | refl (x : Int) : Rch nb S x x
  | step {r x y : Int} : Rch nb S r x → y ∈ nb x → y ∈ S → Rch nb S r y
structure IsPart (nb : Int → List Int) (S c : List Int) : Prop where
  up : Up c
  sub : ∀ x ∈ c, x ∈ S
  root : ∃ r ∈ c, ∀ x ∈ c, Rch nb S r x
  shut : ∀ x ∈ c, ∀ y ∈ nb x, y ∈ S → y ∈ c
structure PSpec (nb : Int → List Int) (S : List Int) (cs : List (List Int)) : Prop where
  each : ∀ c ∈ cs, IsPart nb S c
  new : cs.Pairwise fun c c' => ∃ r ∈ c', r ∉ c
def besD (nb : Int → List Int) (n : Nat) : PyData := .list ((List.range n).map fun (i : Nat) => lstI (nb i))
/-! MsM9: two ways to tell a tree. -/
section
variable {nb : Int → List Int} {S : List Int}
theorem Rch.trans {a b c : Int} (h : Rch nb S a b) (k : Rch nb S b c) : Rch nb S a c := by
  induction k with
  | refl => exact h
  | step _ h2 h3 ih => exact .step ih h2 h3
theorem Rch.symm (hs : ∀ x y, y ∈ nb x → x ∈ nb y) {a b : Int} (ha : a ∈ S) (h : Rch nb S a b) : Rch nb S b a ∧ b ∈ S := by
  induction h with
  | refl => exact ⟨.refl _, ha⟩
  | step h1 h2 h3 ih =>
    obtain ⟨i1, i2⟩ := ih
    exact ⟨(Rch.step (.refl _) (hs _ _ h2) i2).trans i1, h3⟩
theorem Rch.shut {c : List Int} (h : ∀ x ∈ c, ∀ y ∈ nb x, y ∈ S → y ∈ c) {a b : Int} (ha : a ∈ c) (k : Rch nb S a b) : b ∈ c := by
  induction k with
  | refl => exact ha
  | step _ h2 h3 ih => exact h _ ih _ h2 h3
/-- one part just if all hang together -/
theorem parts_one (hs : ∀ x y, y ∈ nb x → x ∈ nb y) {z : Int} (hz : z ∈ S) {cs : List (List Int)} (hP : PSpec nb S cs) (hc : ∀ x ∈ S, ∃ c ∈ cs, x ∈ c) : cs.length = 1 ↔ ∀ s ∈ S, Rch nb S z s := by
  constructor
  · intro h s hs'
    match cs, h with
    | [c], _ =>
      obtain ⟨r, hr, hall⟩ := (hP.each c (by simp)).root
      have h1 : z ∈ c := by
        obtain ⟨c', q1, q2⟩ := hc z hz
        have : c' = c := by simpa using q1
        subst this; exact q2
      have h2 : s ∈ c := by
        obtain ⟨c', q1, q2⟩ := hc s hs'
        have : c' = c := by simpa using q1
        subst this; exact q2
      have hrS := (hP.each c (by simp)).sub r hr
      exact (Rch.symm hs hrS (hall z h1)).1.trans (hall s h2)
  · intro h
    match cs, hP, hc with
    | [], _, hc =>
      obtain ⟨c, q, _⟩ := hc z hz
      simp at q
    | [c], _, _ => rfl
    | c :: c' :: r, hP, hc =>
      exfalso
      obtain ⟨x, hx, hn⟩ := (List.pairwise_cons.mp hP.new).1 c' (by simp)
      have hp := hP.each c (by simp)
      obtain ⟨y, hy, _⟩ := hp.root
      have hyz : Rch nb S y z := (Rch.symm hs hz (h y (hp.sub y hy))).1
      have hxS := (hP.each c' (by simp)).sub x hx
      exact hn (Rch.shut hp.shut hy (hyz.trans (h x hxS)))
end
def Conn (n : Int) (ps : List (Int × Int)) : Prop := ∀ s ∈ rngZ 0 n, Rch (nbr ps) (rngZ 0 n) 0 s
theorem besD_near (n : Int) (ps : List (Int × Int)) : (PyData.list ((nearM n ps).map lstI)) = besD (nbr ps) n.toNat := by
  unfold nearM besD
  rw [List.map_map]
  rfl
theorem nbr_len {ps : List (Int × Int)} (h : ps.length ≤ 500) (i : Int) : (nbr ps i).length ≤ 1000 := by
  unfold nbr
  rw [(sortZ_perm _).length_eq]
  have := beside_len (i := i) ps
  omega
theorem nbr_symm (ps : List (Int × Int)) (x y : Int) (h : y ∈ nbr ps x) : x ∈ nbr ps y := nbr_mem.mpr (nbr_mem.mp h).symm
/-! ### the law's way -/
def stepK (K : List Int) (p : Int × Int) : List Int := if decide (p.1 ∈ K) = decide (p.2 ∈ K) then K else K ++ [p.1, p.2]
def turnK (ps : List (Int × Int)) (K : List Int) : List Int := ps.foldl stepK K
def ShutK (ps : List (Int × Int)) (K : List Int) : Prop := ∀ p ∈ ps, (p.1 ∈ K ↔ p.2 ∈ K)
theorem stepK_sub {K : List Int} {p : Int × Int} {x : Int} (h : x ∈ K) : x ∈ stepK K p := by
  unfold stepK
  split
  · exact h
  · exact List.mem_append_left _ h
theorem turnK_sub : ∀ {ps : List (Int × Int)} {K : List Int} {x : Int}, x ∈ K → x ∈ turnK ps K
  | [], _, _, h => h
  | p :: ps, K, x, h => turnK_sub (ps := ps) (stepK_sub h)
theorem stepK_len (K : List Int) (p : Int × Int) : (stepK K p).length ≤ K.length + 2 := by
  unfold stepK
  split
  · omega
  · simp
/-- the number of different ones -/
def cnt (K : List Int) : Nat := (upI K).length
theorem cnt_sub {K L : List Int} (h : ∀ x ∈ K, x ∈ L) : cnt K ≤ cnt L := nodup_le (Up.nodup (upI_up K)) fun x hx => upI_mem.mpr (h x (upI_mem.mp hx))
theorem cnt_more {K L : List Int} {y : Int} (h : ∀ x ∈ K, x ∈ L) (hy : y ∈ L) (hn : y ∉ K) : cnt K + 1 ≤ cnt L := by
  have : (y :: upI K).Nodup := List.nodup_cons.mpr ⟨fun q => hn (upI_mem.mp q), Up.nodup (upI_up K)⟩
  exact nodup_le this fun x hx => by
    rcases List.mem_cons.mp hx with rfl | q
    · exact upI_mem.mpr hy
    · exact upI_mem.mpr (h x (upI_mem.mp q))
/-- a turn either finds something new, or all is shut -/
theorem turn_or : ∀ (ps : List (Int × Int)) (K : List Int), (turnK ps K = K ∧ ShutK ps K) ∨ cnt K + 1 ≤ cnt (turnK ps K)
  | [], K => .inl ⟨rfl, fun p hp => by simp at hp⟩
  | p :: ps, K => by
    by_cases e : decide (p.1 ∈ K) = decide (p.2 ∈ K)
    · have es : stepK K p = K := if_pos e
      show (turnK ps (stepK K p) = K ∧ _) ∨ _ ≤ cnt (turnK ps (stepK K p))
      rw [es]
      rcases turn_or ps K with ⟨h1, h2⟩ | h
      · refine .inl ⟨h1, fun q hq => ?_⟩
        rcases List.mem_cons.mp hq with rfl | hq
        · exact decide_eq_decide.mp e
        · exact h2 q hq
      · exact .inr h
    · have es : stepK K p = K ++ [p.1, p.2] := if_neg e
      refine .inr ?_
      show _ ≤ cnt (turnK ps (stepK K p))
      rw [es]
      have sub : ∀ x ∈ K, x ∈ turnK ps (K ++ [p.1, p.2]) := fun x hx => turnK_sub (List.mem_append_left _ hx)
      by_cases q : p.1 ∈ K
      · have q2 : p.2 ∉ K := fun q2 => e (by rw [decide_eq_true q, decide_eq_true q2])
        exact cnt_more (y := p.2) sub (turnK_sub (by simp)) q2
      · exact cnt_more (y := p.1) sub (turnK_sub (by simp)) q
def turnsK (ps : List (Int × Int)) : Nat → List Int → List Int
  | 0, K => K
  | t + 1, K => turnK ps (turnsK ps t K)
theorem turns_or (ps : List (Int × Int)) (K : List Int) : ∀ t, ShutK ps (turnsK ps t K) ∨ cnt K + t ≤ cnt (turnsK ps t K)
  | 0 => .inr (Nat.le_refl _)
  | t + 1 => by
    show ShutK ps (turnK ps (turnsK ps t K)) ∨ _ ≤ cnt (turnK ps (turnsK ps t K))
    rcases turn_or ps (turnsK ps t K) with ⟨h1, h2⟩ | h
    · rw [h1]; exact .inl h2
    · rcases turns_or ps K t with k | k
      · -- shut already: nothing is found
        have : ∀ (qs : List (Int × Int)) (L : List Int), ShutK qs L → turnK qs L = L := by
          intro qs
          induction qs with
          | nil => intro L _; rfl
          | cons q qs ih =>
            intro L hL
            have es : stepK L q = L := if_pos (decide_eq_decide.mpr (hL q List.mem_cons_self))
            show turnK qs (stepK L q) = L
            rw [es]
            exact ih L fun p hp => hL p (List.mem_cons_of_mem _ hp)
        rw [this ps _ k]
        exact .inl k
      · exact .inr (by omega)
theorem step_rch {n : Int} {ps : List (Int × Int)} (hw : InWeb n ps) {K : List Int} (hK : ∀ x ∈ K, x ∈ rngZ 0 n ∧ Rch (nbr ps) (rngZ 0 n) 0 x) {p : Int × Int} (hp : p ∈ ps) : ∀ x ∈ stepK K p, x ∈ rngZ 0 n ∧ Rch (nbr ps) (rngZ 0 n) 0 x := fun x hx => by
  unfold stepK at hx
  split at hx
  · exact hK x hx
  · rename_i e
    have hq := hw p hp
    have m1 : p.1 ∈ rngZ 0 n := rngZ_mem.mpr (by omega)
    have m2 : p.2 ∈ rngZ 0 n := rngZ_mem.mpr (by omega)
    have both : Rch (nbr ps) (rngZ 0 n) 0 p.1 ∧ Rch (nbr ps) (rngZ 0 n) 0 p.2 := by
      by_cases q : p.1 ∈ K
      · have r := (hK _ q).2
        exact ⟨r, .step r (nbr_mem.mpr (.inl hp)) m2⟩
      · by_cases q2 : p.2 ∈ K
        · have r := (hK _ q2).2
          exact ⟨.step r (nbr_mem.mpr (.inr hp)) m1, r⟩
        · exact absurd (by rw [decide_eq_false q, decide_eq_false q2]) e
    rcases List.mem_append.mp hx with h | h
    · exact hK x h
    · have : x = p.1 ∨ x = p.2 := by simpa using h
      rcases this with rfl | rfl
      · exact ⟨m1, both.1⟩
      · exact ⟨m2, both.2⟩
theorem turn_rch {n : Int} {ps : List (Int × Int)} (hw : InWeb n ps) : ∀ (qs : List (Int × Int)), (∀ q ∈ qs, q ∈ ps) → ∀ K : List Int, (∀ x ∈ K, x ∈ rngZ 0 n ∧ Rch (nbr ps) (rngZ 0 n) 0 x) → ∀ x ∈ turnK qs K, x ∈ rngZ 0 n ∧ Rch (nbr ps) (rngZ 0 n) 0 x
  | [], _, K, hK => hK
  | q :: qs, hs, K, hK => turn_rch hw qs (fun p hp => hs p (List.mem_cons_of_mem _ hp)) (stepK K q) (step_rch hw hK (hs q List.mem_cons_self))
theorem turns_rch {n : Int} {ps : List (Int × Int)} (hw : InWeb n ps) {K : List Int} (hK : ∀ x ∈ K, x ∈ rngZ 0 n ∧ Rch (nbr ps) (rngZ 0 n) 0 x) : ∀ t, ∀ x ∈ turnsK ps t K, x ∈ rngZ 0 n ∧ Rch (nbr ps) (rngZ 0 n) 0 x
  | 0 => hK
  | t + 1 => turn_rch hw ps (fun _ h => h) _ (turns_rch hw hK t)
theorem known_all {n : Int} {ps : List (Int × Int)} (hw : InWeb n ps) (hn : 1 ≤ n) : ((cnt (turnsK ps n.toNat [0]) : Int) = n) ↔ Conn n ps := by
  have h0 : (0 : Int) ∈ rngZ 0 n := rngZ_mem.mpr ⟨Int.le_refl _, by omega⟩
  have hK := turns_rch hw (K := [0]) (fun x hx => by
    have : x = 0 := by simpa using hx
    subst this
    exact ⟨h0, .refl _⟩) n.toNat
  have sub0 : ∀ t, (0 : Int) ∈ turnsK ps t [0] := fun t => by
    induction t with
    | zero => simp [turnsK]
    | succ t ih => exact turnK_sub ih
  have hup : Up (rngZ 0 n) := rngZ_up 0 n
  have hle : cnt (turnsK ps n.toNat [0]) ≤ n.toNat := by
    have := nodup_le (Up.nodup (upI_up (turnsK ps n.toNat [0]))) (m := rngZ 0 n) fun x hx => (hK x (upI_mem.mp hx)).1
    rw [rngZ_len] at this
    unfold cnt
    omega
  constructor
  · intro h s hs
    have hs' : s ∈ turnsK ps n.toNat [0] := by
      refine Classical.byContradiction fun hns => ?_
      have : (s :: upI (turnsK ps n.toNat [0])).Nodup := List.nodup_cons.mpr ⟨fun q => hns (upI_mem.mp q), Up.nodup (upI_up _)⟩
      have := nodup_le this (m := rngZ 0 n) fun x hx => by
        rcases List.mem_cons.mp hx with rfl | q
        · exact hs
        · exact (hK x (upI_mem.mp q)).1
      rw [rngZ_len, List.length_cons] at this
      unfold cnt at h
      omega
    exact (hK s hs').2
  · intro h
    rcases turns_or ps [0] n.toNat with k | k
    · -- shut: all that is reached is known
      have all : ∀ s, Rch (nbr ps) (rngZ 0 n) 0 s → s ∈ turnsK ps n.toNat [0] := fun s r => by
        induction r with
        | refl => exact sub0 _
        | step h1 h2 h3 ih =>
          rcases nbr_mem.mp h2 with q | q
          · exact (k _ q).mp ih
          · exact (k _ q).mpr ih
      have := nodup_le (Up.nodup hup) (m := upI (turnsK ps n.toNat [0])) fun x hx => upI_mem.mpr (all x (h x hx))
      rw [rngZ_len] at this
      unfold cnt at hle ⊢
      omega
    · have : cnt [0] = 1 := rfl
      omega
/-! MsM10: the law's own test of a tree; small rules. -/
theorem cNe_bool (a b : Bool) : cNe (.bool a) (.bool b) = .ok (!(a == b)) := ne_of (sh_bool a) (sh_bool b) rfl
theorem cEq_bool (a b : Bool) : cEq (.bool a) (.bool b) = .ok (a == b) := eq_of (sh_bool a) (sh_bool b) rfl
theorem eqv_self {n : Nat} {d : PyData} (h : shN n d) : PyData.eqv d d = true := PySem.SeqAt.eqv_refl d h.1
theorem cNe_self {n : Nat} {d : PyData} (h : shN n d) (hn : n ≤ 64 := by decide) : cNe d d = .ok false := ne_of h h (eqv_self h) hn hn
theorem cEq_self {n : Nat} {d : PyData} (h : shN n d) (hn : n ≤ 64 := by decide) : cEq d d = .ok true := eq_of h h (eqv_self h) hn hn
theorem sh_web (n : Int) (ls : List (List Int)) : shN 4 (webL n ls) := sh_tuple fun d hd => by
  have : d = .int n ∨ d = .list (ls.map tupI) := by simpa using hd
  rcases this with rfl | rfl
  · exact sh_mono (sh_int n) (by decide)
  · exact sh_listT ls
theorem lsetI_ok {ms : List Int} (h : ms.length < 4000) : lsetI (.list (ms.map .int)) = .ok (.int (upI ms).length) := by
  show (ofO (intsOf (ms.map .int))).bind _ = _
  rw [ints_map, ofO_some, Rs.bind_ok, if_pos h]
/-! MsK1: slides. -/
def movedM (ms : List Int) (a b : Int) : List Int := sortZ (ms.filter (fun x => decide (x ≠ a)) ++ [b])
theorem moved_den (ms : List Int) (a b : Int) (hl : ms.length ≤ 1000) : d_moved [.fz (tupI ms), .fz (.int a), .fz (.int b)] = .ok (tupI (movedM ms a b)) := by
  refine wp_run [.fz (tupI ms), .fz (.int a), .fz (.int b), .nil] ?_
  refine wp_ret (d := tupI (movedM ms a b)) ?_ rfl
  have : lComp (iSeq (bVar 0)) (gN 3) (tCmp cNe (dVar 3) (dVar 1)) (dVar 3) [3] [.fz (tupI ms), .fz (.int a), .fz (.int b), .nil] = .ok ((ms.filter fun x => decide (x ≠ a)).map .int) := by
    refine lcomp_t (f := PyData.int) rfl rfl (by omega) fun x _ => ⟨_, rfl, ?_, fun _ => rfl⟩
    simp [wipeE]
  have hf := List.length_filter_le (fun x => decide (x ≠ a)) ms
  have o : opAdd (.list ((ms.filter fun x => decide (x ≠ a)).map .int)) (.list [.int b]) = .ok (.list ((ms.filter (fun x => decide (x ≠ a)) ++ [b]).map .int)) := by
    rw [opAdd_lst _ _ (by simp only [List.length_map, List.length_cons, List.length_nil]; omega)]
    simp
  have s : sortS (.fz (.list ((ms.filter (fun x => decide (x ≠ a)) ++ [b]).map .int))) = .ok ((movedM ms a b).map .int) := sortD_ints (by simp only [List.length_append, List.length_cons, List.length_nil]; omega)
  rw [dTuple_e, dLst_e, lSorted_e, bOf_e, dBin_e, dLst_e, this]
  simp only [Rs.bind_ok, dLst_e, lCons_e, lNil_e, dVar_e, List.getElem?_cons_succ, List.getElem?_cons_zero, o, s, tupD_l]
theorem snoc_filter {α β : Type} (l : List α) (b : α) (p : α → Bool) (f : α → β) : ((l ++ [b]).filter p).map f = (l.filter p).map f ++ (if p b = true then [f b] else []) := by
  rw [List.filter_append, List.map_append]
  congr 1
  by_cases q : p b = true
  · rw [List.filter_cons_of_pos q, if_pos q]; rfl
  · rw [List.filter_cons_of_neg q, if_neg q]; rfl
/-- the slides of the mark at a -/
def slidesAt (n : Int) (ps : List (Int × Int)) (ms : List Int) (a : Int) : List (Int × Int) := ((nbr ps a).filter fun b => !decide (b ∈ ms) && isMarks n ps (movedM ms a b)).map fun b => (a, b)
def slidesM (n : Int) (ps : List (Int × Int)) (ms : List Int) : List (Int × Int) := ms.flatMap (slidesAt n ps ms)
theorem moved_len (ms : List Int) (a b : Int) : (movedM ms a b).length ≤ ms.length + 1 := by
  unfold movedM
  rw [(sortZ_perm _).length_eq, List.length_append, List.length_singleton]
  have := List.length_filter_le (fun x => decide (x ≠ a)) ms
  omega
theorem slides_of_den {n m : Int} {ps : List (Int × Int)} (h : GoodWeb n m ps) (hm : m ≤ 12) {ms : List Int} (hr : ∀ s ∈ ms, 0 ≤ s ∧ s < n) (hl : ms.length ≤ 50) : d_slides_of [.fz (webP n ps), .fz (besD (nbr ps) n.toNat), .fz (tupI ms)] = .ok (.list ((slidesM n ps ms).map prD)) := by
  obtain ⟨g1, g2, g3, g4, g5⟩ := h
  have hnl : ∀ a, (nbr ps a).length ≤ 1000 := nbr_len (by omega)
  have hsl : ∀ a, (slidesAt n ps ms a).length ≤ 1000 := fun a => by
    unfold slidesAt
    rw [List.length_map]
    exact Nat.le_trans (List.length_filter_le _ _) (hnl a)
  refine wp_run [.fz (webP n ps), .fz (besD (nbr ps) n.toNat), .fz (tupI ms), .nil, .nil, .nil] ?_
  refine wp_seq (wp_own (ds := []) rfl ?_)
  refine wp_seq (wp_for (ds := ms.map .int) rfl (fun i ρ => ∃ s4 s5, ρ = [.fz (webP n ps), .fz (besD (nbr ps) n.toNat), .fz (tupI ms), .ow (((ms.take i).flatMap (slidesAt n ps ms)).map prD), s4, s5]) ⟨_, _, rfl⟩ ?_ ?_)
  · rintro i d ρ hd ⟨s4, s5, rfl⟩
    rw [List.getElem?_map] at hd
    cases ea : ms[i]? with
    | none => rw [ea] at hd; cases hd
    | some a =>
      rw [ea] at hd
      cases hd
      have hi : i < ms.length := (List.getElem?_eq_some_iff.mp ea).1
      have ha := hr a (List.mem_of_getElem? ea)
      have hacc : ((ms.take i).flatMap (slidesAt n ps ms)).length ≤ 50 * 1000 := by
        have h1 := flat_len (f := slidesAt n ps ms) (c := 1000) (l := ms.take i) fun x _ => hsl x
        have h2 : (ms.take i).length ≤ 50 := by rw [List.length_take]; omega
        omega
      refine ⟨_, rfl, ?_⟩
      have hb : iSeq (bOf (dIx (bVar 1) (dVar 4))) [.fz (webP n ps), .fz (besD (nbr ps) n.toNat), .fz (tupI ms), .ow (((ms.take i).flatMap (slidesAt n ps ms)).map prD), .fz (.int a), s5] = .ok ((nbr ps a).map .int) := by
        have eb : ((List.range n.toNat).map fun (i : Nat) => lstI (nbr ps i))[a.toNat]? = some (lstI (nbr ps a)) := by
          rw [List.getElem?_map, List.getElem?_range (by omega)]
          show some (lstI (nbr ps ((a.toNat : Nat) : Int))) = _
          rw [Int.toNat_of_nonneg ha.1]
        simp [besD, atD_pos _ a ha.1, eb]
      refine wp_for (ds := (nbr ps a).map .int) hb (fun j ρ => ∃ s5, ρ = [.fz (webP n ps), .fz (besD (nbr ps) n.toNat), .fz (tupI ms), .ow (((ms.take i).flatMap (slidesAt n ps ms) ++ (((nbr ps a).take j).filter fun b => !decide (b ∈ ms) && isMarks n ps (movedM ms a b)).map fun b => (a, b)).map prD), .fz (.int a), s5]) ⟨_, by simp; rfl⟩ ?_ ?_
      · rintro j d ρ hd ⟨t5, rfl⟩
        rw [List.getElem?_map] at hd
        cases eb : (nbr ps a)[j]? with
        | none => rw [eb] at hd; cases hd
        | some b =>
          rw [eb] at hd
          cases hd
          have hj : j < (nbr ps a).length := (List.getElem?_eq_some_iff.mp eb).1
          have hnla := hnl a
          have htk : (nbr ps a).take (j + 1) = (nbr ps a).take j ++ [b] := by rw [List.take_add_one, eb]; rfl
          have hmv := moved_den ms a b (by omega)
          have hml := moved_len ms a b
          have him := is_marks_den n ps (movedM ms a b) (by omega) (by omega)
          refine ⟨_, rfl, ?_⟩
          have hG : (((nbr ps a).take (j + 1)).filter fun b => !decide (b ∈ ms) && isMarks n ps (movedM ms a b)).map (fun b => (a, b)) = (((nbr ps a).take j).filter fun b => !decide (b ∈ ms) && isMarks n ps (movedM ms a b)).map (fun b => (a, b)) ++ (if (!decide (b ∈ ms) && isMarks n ps (movedM ms a b)) = true then [(a, b)] else []) := by
            rw [htk]
            exact snoc_filter _ _ _ _
          have hfl := List.length_filter_le (fun b => !decide (b ∈ ms) && isMarks n ps (movedM ms a b)) ((nbr ps a).take j)
          rw [List.length_take] at hfl
          have hgl : ((((nbr ps a).take j).filter fun b => !decide (b ∈ ms) && isMarks n ps (movedM ms a b)).map (fun b => (a, b))).length ≤ 1000 := by rw [List.length_map]; omega
          rw [hG]
          generalize (((nbr ps a).take j).filter fun b => !decide (b ∈ ms) && isMarks n ps (movedM ms a b)).map (fun b => (a, b)) = got at hgl ⊢
          refine wp_if (b := !decide (b ∈ ms) && isMarks n ps (movedM ms a b)) ?_ (fun q => ?_) (fun q => ?_)
          · by_cases q : b ∈ ms
            · simp [q]
            · simp [q, hmv, him]
          · refine wp_app (ds := ((ms.take i).flatMap (slidesAt n ps ms) ++ got).map prD) (d := prD (a, b)) rfl rfl (by rw [List.length_map, List.length_append]; omega) ⟨.fz (.int b), ?_⟩
            rw [if_pos q, ← List.append_assoc, List.map_append (l₂ := [(a, b)])]
            rfl
          · refine wp_nx ⟨.fz (.int b), ?_⟩
            rw [if_neg (by rw [q]; exact Bool.false_ne_true), List.append_nil]
            rfl
      · rintro ρ ⟨t5, rfl⟩
        rw [List.length_map, List.take_length]
        exact ⟨_, _, by rw [take_flat _ ea]; rfl⟩
  · rintro ρ ⟨s4, s5, rfl⟩
    rw [List.length_map, List.take_length]
    refine wp_seq (wp_frz rfl ?_)
    exact wp_ret rfl rfl
/-! MsK2: the law's slides are these. -/
theorem sortD_f {α : Type} {f : α → PyData} {xs : List α} (hl : xs.length ≤ 1000000) (hok : sortOk (xs.map f) = true) : sortD (xs.map f) = .ok ((xs.mergeSort (PySem.W.dataLe false f)).map f) := by
  unfold sortD
  rw [if_pos ⟨by rw [List.length_map]; exact hl, hok⟩]
  congr 1
  exact (List.map_mergeSort (f := f) (r := PySem.W.dataLe false f) (s := PySem.W.dataLe false id) fun a _ b _ => rfl).symm
theorem sortOk_f {α : Type} {f : α → PyData} {xs : List α} (hal : ∀ a ∈ xs, ∀ b ∈ xs, PySem.W.alike (f a) (f b) = true) (hk : (∀ a ∈ xs, isTupC (f a) = true) ∨ xs.length ≤ 1 ∧ ∀ a ∈ xs, f a ≠ .none) (hd : ∀ a ∈ xs, (f a).depth ≤ 20) : sortOk (xs.map f) = true := by
  unfold sortOk
  simp only [Bool.and_eq_true, Bool.or_eq_true]
  refine ⟨⟨?_, ?_⟩, ?_⟩
  · refine List.all_eq_true.mpr fun d h1 => List.all_eq_true.mpr fun d' h2 => ?_
    obtain ⟨a, ha, rfl⟩ := List.mem_map.mp h1
    obtain ⟨b, hb, rfl⟩ := List.mem_map.mp h2
    exact hal a ha b hb
  · rcases hk with h | ⟨h1, h2⟩
    · refine .inl (.inr (List.all_eq_true.mpr fun d h1 => ?_))
      obtain ⟨a, ha, rfl⟩ := List.mem_map.mp h1
      exact h a ha
    · refine .inl (.inl ⟨by rw [List.length_map, decide_eq_true_eq]; exact h1, List.all_eq_true.mpr fun d h3 => ?_⟩)
      obtain ⟨a, ha, rfl⟩ := List.mem_map.mp h3
      have := h2 a ha
      cases e : f a with
      | none => exact absurd e this
      | _ => rfl
  · refine List.all_eq_true.mpr fun d h1 => ?_
    obtain ⟨a, ha, rfl⟩ := List.mem_map.mp h1
    exact decide_eq_true (hd a ha)
def sortP (l : List (Int × Int)) : List (Int × Int) := l.mergeSort fun p q => decide (p.1 < q.1 ∨ p.1 = q.1 ∧ p.2 ≤ q.2)
theorem sortD_pairs {l : List (Int × Int)} (hl : l.length ≤ 1000000) : sortD (l.map prD) = .ok ((sortP l).map prD) := by
  rw [sortD_f hl (sortOk_f (fun a _ b _ => by simp [prD, PySem.W.alike, PySem.W.alikeAll]) (.inl fun _ _ => rfl) fun a _ => by simp [prD, PyData.depth, PyData.depthAll])]
  unfold sortP
  have : PySem.W.dataLe false prD = fun (p q : Int × Int) => decide (p.1 < q.1 ∨ p.1 = q.1 ∧ p.2 ≤ q.2) := PySem.W.dataLe_ii (fun p : Int × Int => p.1) (fun p => p.2)
  rw [this]
theorem sortP_perm (l : List (Int × Int)) : (sortP l).Perm l := List.mergeSort_perm _ _
theorem sortP_eq {l m : List (Int × Int)} (hl : l.Nodup) (hm : m.Pairwise ltP) (h : ∀ x, x ∈ l ↔ x ∈ m) : sortP l = m := by
  have h1 : (sortP l).Pairwise fun p q => p.1 < q.1 ∨ p.1 = q.1 ∧ p.2 ≤ q.2 := by
    have := List.pairwise_mergeSort (le := fun p q : Int × Int => decide (p.1 < q.1 ∨ p.1 = q.1 ∧ p.2 ≤ q.2)) (fun a b c h1 h2 => by simp at *; omega) (fun a b => by simp; omega) l
    exact this.imp fun h => of_decide_eq_true h
  have h2 : (sortP l).Nodup := (sortP_perm l).nodup_iff.mpr hl
  have h3 : (sortP l).Pairwise ltP := (h1.and (List.nodup_iff_pairwise_ne.mp h2)).imp fun {p q} ⟨q1, q2⟩ => by
    have : ¬ (p.1 = q.1 ∧ p.2 = q.2) := fun w => q2 (Prod.ext w.1 w.2)
    unfold ltP
    omega
  exact pw_unique (lt := ltP) ltP_asym h3 hm fun x => (sortP_perm l).mem_iff.trans (h x)

theorem moved_mem {ms : List Int} {a b x : Int} : x ∈ movedM ms a b ↔ x ∈ ms ∧ x ≠ a ∨ x = b := by
  unfold movedM
  rw [(sortZ_perm _).mem_iff, List.mem_append, List.mem_filter, decide_eq_true_eq, List.mem_singleton]
theorem moved_up {ms : List Int} {a b : Int} (h : Up ms) (hb : b ∉ ms) : Up (movedM ms a b) := by
  refine sortZ_up ?_
  rw [List.nodup_append]
  refine ⟨(Up.nodup h).filter _, by simp, fun x hx y hy => ?_⟩
  have : y = b := by simpa using hy
  subst this
  intro q
  subst q
  exact hb (List.mem_filter.mp hx).1
theorem moved_range {n : Int} {ms : List Int} {a b : Int} (h : ∀ s ∈ ms, 0 ≤ s ∧ s < n) (hb : 0 ≤ b ∧ b < n) : ∀ s ∈ movedM ms a b, 0 ≤ s ∧ s < n := fun s hs => by
  rcases moved_mem.mp hs with q | q
  · exact h s q.1
  · subst q; exact hb
theorem adj_range {n : Int} {ps : List (Int × Int)} (hw : InWeb n ps) {x y : Int} (h : Adj ps x y) : (0 ≤ x ∧ x < n) ∧ (0 ≤ y ∧ y < n) ∧ x ≠ y := by
  rcases h with h | h
  · have := hw _ h
    simp only at this
    omega
  · have := hw _ h
    simp only at this
    omega
/-- a slide -/
def Slide (ps : List (Int × Int)) (ms : List Int) (a b : Int) : Prop := a ∈ ms ∧ Adj ps a b ∧ b ∉ ms ∧ indep ps (movedM ms a b) = true
theorem slides_mem {n m : Int} {ps : List (Int × Int)} (h : GoodWeb n m ps) {ms : List Int} (hg : GoodMarks n ps ms) {p : Int × Int} : p ∈ slidesM n ps ms ↔ Slide ps ms p.1 p.2 := by
  unfold slidesM slidesAt Slide
  rw [List.mem_flatMap]
  constructor
  · rintro ⟨a, ha, h2⟩
    obtain ⟨b, hb, rfl⟩ := List.mem_map.mp h2
    obtain ⟨h3, h4⟩ := List.mem_filter.mp hb
    rw [Bool.and_eq_true, Bool.not_eq_true', decide_eq_false_iff_not] at h4
    have hA := nbr_mem.mp h3
    refine ⟨ha, hA, h4.1, ?_⟩
    have h5 := h4.2
    rwa [marks_up (moved_up hg.1 h4.1) (moved_range hg.2.1 (adj_range h.2.2.1 hA).2.1)] at h5
  · rintro ⟨h1, h2, h3, h4⟩
    refine ⟨p.1, h1, List.mem_map.mpr ⟨p.2, List.mem_filter.mpr ⟨nbr_mem.mpr h2, ?_⟩, rfl⟩⟩
    rw [Bool.and_eq_true, Bool.not_eq_true', decide_eq_false_iff_not]
    refine ⟨h3, ?_⟩
    rw [marks_up (moved_up hg.1 h3) (moved_range hg.2.1 (adj_range h.2.2.1 h2).2.1)]
    exact h4
theorem slides_pw {n m : Int} {ps : List (Int × Int)} (h : GoodWeb n m ps) {ms : List Int} (hu : Up ms) : (slidesM n ps ms).Pairwise ltP := by
  unfold slidesM slidesAt
  rw [List.pairwise_flatMap]
  refine ⟨fun a _ => ?_, ?_⟩
  · rw [List.pairwise_map]
    refine List.Pairwise.filter _ ?_
    exact (nbr_up h.2.2.2.1 (fun q hq => (h.2.2.1 q hq).2.1) a).imp fun q => .inr ⟨rfl, q⟩
  · refine hu.imp fun {a b} hab x hx y hy => ?_
    obtain ⟨_, _, rfl⟩ := List.mem_map.mp hx
    obtain ⟨_, _, rfl⟩ := List.mem_map.mp hy
    exact .inl hab
/-- both ends of a line -/
def endsL (p : Int × Int) : List (Int × Int) := [(p.1, p.2), (p.2, p.1)]
def lawOk (ps : List (Int × Int)) (ms : List Int) (p : Int × Int) : Bool := decide (p.1 ∈ ms) && (!decide (p.2 ∈ ms) && indep ps (movedM ms p.1 p.2))
theorem law_moved_eq : d__law_moved = d_moved := rfl
theorem law_slides_list {n m : Int} {ps : List (Int × Int)} (h : GoodWeb n m ps) {ms : List Int} (hg : GoodMarks n ps ms) : sortP (ps.flatMap fun p => (endsL p).filter (lawOk ps ms)) = slidesM n ps ms := by
  refine sortP_eq ?_ (slides_pw h hg.1) fun p => ?_
  · unfold List.Nodup
    rw [List.pairwise_flatMap]
    refine ⟨fun p hp => ?_, ?_⟩
    · refine List.Pairwise.filter _ ?_
      have := h.2.2.1 p hp
      unfold endsL
      rw [List.pairwise_cons]
      refine ⟨fun q hq => ?_, List.pairwise_singleton _ _⟩
      have : q = (p.2, p.1) := by simpa using hq
      subst this
      intro e
      have := congrArg Prod.fst e
      simp only at this
      omega
    · refine List.Pairwise.imp_of_mem ?_ h.2.2.2.1
      intro p q hp hq hpq x hx y hy e
      subst e
      have h1 := h.2.2.1 p hp
      have h2 := h.2.2.1 q hq
      have m1 := (List.mem_filter.mp hx).1
      have m2 := (List.mem_filter.mp hy).1
      unfold endsL at m1 m2
      simp only [List.mem_cons, List.not_mem_nil, or_false] at m1 m2
      unfold ltP at hpq
      rcases m1 with rfl | rfl <;> rcases m2 with e | e <;> (have e1 := congrArg Prod.fst e; have e2 := congrArg Prod.snd e; simp only at e1 e2; omega)
  · rw [slides_mem h hg, List.mem_flatMap]
    unfold Slide
    constructor
    · rintro ⟨q, hq, hp⟩
      obtain ⟨h1, h2⟩ := List.mem_filter.mp hp
      unfold lawOk at h2
      rw [Bool.and_eq_true, Bool.and_eq_true, Bool.not_eq_true', decide_eq_false_iff_not, decide_eq_true_eq] at h2
      refine ⟨h2.1, ?_, h2.2.1, h2.2.2⟩
      unfold endsL at h1
      simp only [List.mem_cons, List.not_mem_nil, or_false] at h1
      rcases h1 with rfl | rfl
      · exact .inl hq
      · exact .inr hq
    · rintro ⟨h1, h2, h3, h4⟩
      have hk : lawOk ps ms p = true := by
        unfold lawOk
        rw [Bool.and_eq_true, Bool.and_eq_true, Bool.not_eq_true', decide_eq_false_iff_not, decide_eq_true_eq]
        exact ⟨h1, h3, h4⟩
      rcases h2 with q | q
      · exact ⟨_, q, List.mem_filter.mpr ⟨by unfold endsL; simp, hk⟩⟩
      · exact ⟨_, q, List.mem_filter.mpr ⟨by unfold endsL; simp, hk⟩⟩
theorem law_slides_den {n m : Int} {ps : List (Int × Int)} (h : GoodWeb n m ps) (hm : m ≤ 12) {ms : List Int} (hg : GoodMarks n ps ms) (hl : ms.length ≤ 50) : d__law_slides [.fz (webP n ps), .fz (tupI ms)] = .ok (.list ((slidesM n ps ms).map prD)) := by
  rw [← law_slides_list h hg]
  obtain ⟨g1, g2, g3, g4, g5⟩ := h
  generalize hF : (fun p => (endsL p).filter (lawOk ps ms)) = F
  have hFl : ∀ p, (F p).length ≤ 2 := fun p => by
    rw [← hF]
    exact Nat.le_trans (List.length_filter_le _ _) (by simp [endsL])
  refine wp_run [.fz (webP n ps), .fz (tupI ms), .nil, .nil, .nil, .nil, .nil] ?_
  refine wp_seq (wp_own (ds := []) rfl ?_)
  refine wp_seq (wp_for (ds := ps.map prD) (by simp [webP_eq]) (fun i ρ => ∃ s3 s4 s5 s6, ρ = [.fz (webP n ps), .fz (tupI ms), .ow (((ps.take i).flatMap F).map prD), s3, s4, s5, s6]) ⟨_, _, _, _, rfl⟩ ?_ ?_)
  · rintro i d ρ hd ⟨s3, s4, s5, s6, rfl⟩
    rw [List.getElem?_map] at hd
    cases ea : ps[i]? with
    | none => rw [ea] at hd; cases hd
    | some p =>
      rw [ea] at hd
      cases hd
      have hacc : ((ps.take i).flatMap F).length ≤ 200 := by
        have h1 := flat_len (f := F) (c := 2) (l := ps.take i) fun x _ => hFl x
        have h2 : (ps.take i).length ≤ 60 := by rw [List.length_take]; omega
        omega
      refine ⟨_, rfl, ?_⟩
      refine wp_for (ds := (endsL p).map prD) rfl (fun j ρ => ∃ s5 s6, ρ = [.fz (webP n ps), .fz (tupI ms), .ow (((ps.take i).flatMap F ++ ((endsL p).take j).filter (lawOk ps ms)).map prD), .fz (.int p.1), .fz (.int p.2), s5, s6]) ⟨s5, s6, by simp [setAll]⟩ ?_ ?_
      · rintro j d ρ hd ⟨t5, t6, rfl⟩
        rw [List.getElem?_map] at hd
        cases eb : (endsL p)[j]? with
        | none => rw [eb] at hd; cases hd
        | some q =>
          rw [eb] at hd
          cases hd
          obtain ⟨x, y⟩ := q
          have hmv := moved_den ms x y (by omega)
          have hml := moved_len ms x y
          have him := law_is_marks_den n ps (movedM ms x y) (by omega)
          have htk : (endsL p).take (j + 1) = (endsL p).take j ++ [(x, y)] := by rw [List.take_add_one, eb]; rfl
          have hfl : (((endsL p).take j).filter (lawOk ps ms)).length ≤ 2 := Nat.le_trans (List.length_filter_le _ _) (by rw [List.length_take]; simp [endsL]; omega)
          refine ⟨_, rfl, ?_⟩
          rw [htk, List.filter_append]
          generalize ((endsL p).take j).filter (lawOk ps ms) = got at hfl ⊢
          refine wp_if (b := lawOk ps ms (x, y)) ?_ (fun q => ?_) (fun q => ?_)
          · unfold lawOk
            simp [setAll, prD, law_moved_eq, hmv, him]
            by_cases q1 : x ∈ ms <;> by_cases q2 : y ∈ ms <;> simp [q1, q2]
          · refine wp_app (ds := ((ps.take i).flatMap F ++ got).map prD) (d := prD (x, y)) rfl rfl (by rw [List.length_map, List.length_append]; omega) ⟨.fz (.int x), .fz (.int y), ?_⟩
            rw [List.filter_cons_of_pos q, ← List.append_assoc, List.map_append (l₂ := List.filter _ [] |>.cons (x, y))]
            rfl
          · refine wp_nx ⟨.fz (.int x), .fz (.int y), ?_⟩
            rw [List.filter_cons_of_neg (by rw [q]; exact Bool.false_ne_true), List.filter_nil, List.append_nil]
            rfl
      · rintro ρ ⟨t5, t6, rfl⟩
        rw [List.length_map, List.take_length]
        refine ⟨.fz (.int p.1), .fz (.int p.2), t5, t6, ?_⟩
        rw [take_flat _ ea, ← hF]
  · rintro ρ ⟨s3, s4, s5, s6, rfl⟩
    rw [List.length_map, List.take_length]
    have hacc : (ps.flatMap F).length ≤ 200 := by
      have h1 := flat_len (f := F) (c := 2) (l := ps) fun x _ => hFl x
      omega
    refine wp_ret (d := .list ((sortP (ps.flatMap F)).map prD)) ?_ rfl
    have o : sortS (.ow ((ps.flatMap F).map prD)) = .ok ((sortP (ps.flatMap F)).map prD) := sortD_pairs (by omega)
    simp [o]
/-! MsK3: what is reached; the new ones of a row; the bounds. -/
theorem moved_length {ms : List Int} {a b : Int} (h : Up ms) (ha : a ∈ ms) : (movedM ms a b).length = ms.length := by
  unfold movedM
  rw [(sortZ_perm _).length_eq, List.length_append, List.length_singleton]
  have h1 : (ms.filter fun x => decide (x ≠ a)) = ms.erase a := by
    rw [(Up.nodup h).erase_eq_filter]
    congr 1
    funext x
    by_cases q : x = a <;> simp [q]
  rw [h1, List.length_erase_of_mem ha]
  have := List.length_pos_of_mem ha
  omega
theorem slide_good {n m : Int} {ps : List (Int × Int)} (h : GoodWeb n m ps) {ms : List Int} (hg : GoodMarks n ps ms) {a b : Int} (hs : Slide ps ms a b) : GoodMarks n ps (movedM ms a b) :=
  ⟨moved_up hg.1 hs.2.2.1, moved_range hg.2.1 (adj_range h.2.2.1 hs.2.1).2.1, hs.2.2.2⟩
/-- to these one comes -/
inductive Rm (ps : List (Int × Int)) (ms : List Int) : List Int → Prop
  | refl : Rm ps ms ms
  | step {x : List Int} {a b : Int} : Rm ps ms x → Slide ps x a b → Rm ps ms (movedM x a b)
theorem Rm.good {n m : Int} {ps : List (Int × Int)} (h : GoodWeb n m ps) {ms x : List Int} (hg : GoodMarks n ps ms) (r : Rm ps ms x) : GoodMarks n ps x ∧ x.length = ms.length := by
  induction r with
  | refl => exact ⟨hg, rfl⟩
  | step _ hs ih => exact ⟨slide_good h ih.1 hs, (moved_length ih.1.1 hs.1).trans ih.2⟩
theorem Rm.trans {ps : List (Int × Int)} {ms x y : List Int} (r : Rm ps ms x) (r' : Rm ps x y) : Rm ps ms y := by
  induction r' with
  | refl => exact r
  | step _ hs ih => exact .step ih hs
def goalsM (n : Int) (ps : List (Int × Int)) (x : List Int) : List (List Int) := (slidesM n ps x).map fun p => movedM x p.1 p.2
theorem goals_mem {n m : Int} {ps : List (Int × Int)} (h : GoodWeb n m ps) {ms : List Int} (hg : GoodMarks n ps ms) {g : List Int} : g ∈ goalsM n ps ms ↔ ∃ a b, Slide ps ms a b ∧ g = movedM ms a b := by
  unfold goalsM
  rw [List.mem_map]
  constructor
  · rintro ⟨p, hp, rfl⟩
    exact ⟨p.1, p.2, (slides_mem h hg).mp hp, rfl⟩
  · rintro ⟨a, b, hs, rfl⟩
    exact ⟨(a, b), (slides_mem h hg).mpr hs, rfl⟩

/-! ### the new ones of a row -/
section
variable {α β : Type} [DecidableEq β] (key : α → β) (K : List β)
def newsGo (N : List α) : List α → List α
  | [] => N
  | c :: cs => newsGo (if key c ∈ K ++ N.map key then N else N ++ [c]) cs
def newsBy (cs : List α) : List α := newsGo key K [] cs
variable {key K}
theorem newsGo_app : ∀ (cs ds : List α) (N : List α), newsGo key K N (cs ++ ds) = newsGo key K (newsGo key K N cs) ds
  | [], _, _ => rfl
  | c :: cs, ds, N => newsGo_app cs ds _
theorem newsBy_snoc (cs : List α) (c : α) : newsBy key K (cs ++ [c]) = if key c ∈ K ++ (newsBy key K cs).map key then newsBy key K cs else newsBy key K cs ++ [c] := newsGo_app cs [c] []
theorem newsGo_sub : ∀ {cs : List α} {N : List α} {c : α}, c ∈ newsGo key K N cs → c ∈ N ∨ c ∈ cs
  | [], _, _, h => .inl h
  | d :: cs, N, c, h => by
    rcases newsGo_sub (cs := cs) h with q | q
    · split at q
      · exact .inl q
      · rcases List.mem_append.mp q with r | r
        · exact .inl r
        · exact .inr (by simp at r; subst r; exact List.mem_cons_self)
    · exact .inr (List.mem_cons_of_mem _ q)
theorem newsBy_sub {cs : List α} {c : α} (h : c ∈ newsBy key K cs) : c ∈ cs := by
  rcases newsGo_sub h with q | q
  · cases q
  · exact q
theorem newsGo_nodup : ∀ {cs : List α} {N : List α}, (K ++ N.map key).Nodup → (K ++ (newsGo key K N cs).map key).Nodup
  | [], _, h => h
  | d :: cs, N, h => by
    refine newsGo_nodup (cs := cs) ?_
    split
    · exact h
    · rename_i q
      rw [List.map_append, ← List.append_assoc, List.nodup_append]
      refine ⟨h, by simp, fun a ha b hb e => ?_⟩
      subst e
      have : a = key d := by simpa using hb
      subst this
      exact q ha
theorem newsBy_nodup {cs : List α} (h : K.Nodup) : (K ++ (newsBy key K cs).map key).Nodup := newsGo_nodup (by simpa using h)
theorem newsGo_keep : ∀ {cs : List α} {N : List α} {x : β}, x ∈ K ++ N.map key → x ∈ K ++ (newsGo key K N cs).map key
  | [], _, _, h => h
  | d :: cs, N, x, h => by
    refine newsGo_keep (cs := cs) ?_
    split
    · exact h
    · rw [List.map_append, ← List.append_assoc]
      exact List.mem_append_left _ h
theorem newsGo_all : ∀ {cs : List α} {N : List α} {c : α}, c ∈ cs → key c ∈ K ++ (newsGo key K N cs).map key
  | d :: cs, N, c, h => by
    rcases List.mem_cons.mp h with rfl | h
    · refine newsGo_keep (cs := cs) ?_
      split
      · assumption
      · rw [List.map_append, ← List.append_assoc]
        exact List.mem_append_right _ (by simp)
    · exact newsGo_all (cs := cs) h
theorem newsBy_all {cs : List α} {c : α} (h : c ∈ cs) : key c ∈ K ++ (newsBy key K cs).map key := newsGo_all h
end

/-! ### the bound -/
theorem sets_all {n : Int} : ∀ {m : List Int}, Up m → (∀ s ∈ m, 0 ≤ s ∧ s < n) → m ∈ setsM n m.length := by
  intro m
  induction hl : m.length generalizing m with
  | zero =>
    intro _ _
    have : m = [] := List.eq_nil_of_length_eq_zero hl
    subst this
    simp [setsM]
  | succ k ih =>
    intro hu hr
    rcases List.eq_nil_or_concat m with rfl | ⟨r, y, rfl⟩
    · simp at hl
    · rw [List.concat_eq_append] at *
      have hlr : r.length = k := by simpa using hl
      have hp := List.pairwise_append.mp hu
      have hur : Up r := hp.1
      have h1 := ih hlr hur fun s hs => hr s (List.mem_append_left _ hs)
      refine List.mem_flatMap.mpr ⟨r, h1, List.mem_map.mpr ⟨y, List.mem_filter.mpr ⟨rngZ_mem.mpr (hr y (by simp)), ?_⟩, rfl⟩⟩
      rw [Bool.or_eq_true, decide_eq_true_eq, decide_eq_true_eq]
      rcases List.eq_nil_or_concat r with rfl | ⟨r', z, rfl⟩
      · exact .inl rfl
      · rw [List.concat_eq_append] at *
        right
        have := hp.2.2 z (by simp) y (by simp)
        unfold first
        simp
        omega
theorem known_le {n : Int} {k : Nat} (hn : n ≤ 12) (hk : k ≤ 4) {K : List (List Int)} (hK : K.Nodup) (h : ∀ x ∈ K, Up x ∧ (∀ s ∈ x, 0 ≤ s ∧ s < n) ∧ x.length = k) : K.length ≤ 20736 := by
  have h1 : K.length ≤ (setsM n k).length := List.Nodup.length_le_of_subset hK fun x hx => by
    obtain ⟨q1, q2, q3⟩ := h x hx
    rw [← q3]
    exact sets_all q1 q2
  have h2 := setsM_len (n := n) hn k
  have h3 : 12 ^ k ≤ 12 ^ 4 := Nat.pow_le_pow_right (by decide) hk
  have : 12 ^ 4 = 20736 := by decide
  omega

/-! ### sorted marks -/
def sortT (l : List (List Int)) : List (List Int) := l.mergeSort fun a b => decide (a ≤ b)
theorem sortT_perm (l : List (List Int)) : (sortT l).Perm l := List.mergeSort_perm _ _
theorem sortT_le (l : List (List Int)) : (sortT l).Pairwise fun a b => a ≤ b := by
  have := List.pairwise_mergeSort (le := fun a b : List Int => decide (a ≤ b)) (fun a b c h1 h2 => by
    simp only [decide_eq_true_eq] at *
    exact List.le_trans h1 h2) (fun a b => by
    simp only [Bool.or_eq_true, decide_eq_true_eq]
    exact List.le_total a b) l
  exact this.imp fun h => of_decide_eq_true h
theorem sortT_eq {l m : List (List Int)} (h : l.Perm m) : sortT l = sortT m :=
  List.Perm.eq_of_pairwise (le := fun a b => a ≤ b) (fun a b _ _ h1 h2 => List.le_antisymm h1 h2) (sortT_le l) (sortT_le m) ((sortT_perm l).trans (h.trans (sortT_perm m).symm))
theorem depth_tupI (l : List Int) : (tupI l).depth ≤ 2 := (sh_tupI l).2
theorem dataLe_tupI : PySem.W.dataLe false tupI = fun (p q : List Int) => decide (p ≤ q) := by
  funext p q
  show (!PySem.W.dataLt (.tuple (q.map .int)) (.tuple (p.map .int))) = _
  rw [PySem.W.dataLt_tuple]
  show (!PySem.W.rowLt (q.map .int) (p.map .int)) = _
  rw [PySem.W.dataLt_ints]
  by_cases h : q < p
  · have h' : ¬ p ≤ q := fun r => List.not_lt.mpr r h
    simp [h, h']
  · have h' : p ≤ q := List.not_lt.mp h
    simp [h, h']
theorem sortD_tups {l : List (List Int)} (hl : l.length ≤ 1000000) {k : Nat} (hk : ∀ x ∈ l, x.length = k) (hn : l.Nodup) : sortD (l.map tupI) = .ok ((sortT l).map tupI) := by
  rw [sortD_f hl (sortOk_f (fun a _ b _ => by simp [PySem.W.alike, PySem.W.alike_ints]) ?_ fun a _ => by have := depth_tupI a; omega)]
  · unfold sortT
    rw [dataLe_tupI]
  · by_cases h0 : k = 0
    · refine .inr ⟨?_, fun _ _ e => by cases e⟩
      have : ∀ x ∈ l, x ∈ [([] : List Int)] := fun x hx => by
        have := hk x hx
        rw [h0] at this
        rw [List.eq_nil_of_length_eq_zero this]
        simp
      exact List.Nodup.length_le_of_subset hn this
    · refine .inl fun a ha => ?_
      have := hk a ha
      match a, this with
      | [], q => exact absurd q.symm h0
      | x :: r, _ => rfl

/-! ### small rules -/
theorem eqv_tup_any (x : List Int) (l : List (List Int)) : inAny (tupI x) (l.map tupI) = decide (x ∈ l) := by
  unfold inAny
  rw [List.any_map]
  induction l with
  | nil => rfl
  | cons m ms ih =>
    rw [List.any_cons, ih]
    show (PyData.eqv (tupI m) (tupI x) || _) = _
    rw [eqv_tupI]
    by_cases h : m = x
    · subst h; simp
    · simp [h, Ne.symm h]
@[simp] theorem cIn_lsT (x : List Int) (l : List (List Int)) : cIn (.tuple (x.map .int)) (.fz (.list (l.map tupI))) = .ok (decide (x ∈ l)) := by
  unfold cIn
  simp only []
  rw [if_pos ⟨sh_of (sh_tupI x), sh_of (sh_listT l)⟩]
  congr 1
  exact eqv_tup_any x l
@[simp] theorem cIn_owT (x : List Int) (l : List (List Int)) : cIn (.tuple (x.map .int)) (.ow (l.map tupI)) = .ok (decide (x ∈ l)) := by
  unfold cIn
  simp only []
  rw [if_pos ⟨sh_of (sh_tupI x), sh_of (sh_listT l)⟩]
  congr 1
  exact eqv_tup_any x l
@[simp] theorem cIn_dc (x : List Int) (kvs : List (List Int × PyData)) : cIn (.tuple (x.map .int)) (.dc kvs) = .ok (decide (x ∈ kvs.map (·.1))) := by
  unfold cIn
  simp only [ints_map]
  congr 1
  rw [Bool.eq_iff_iff, List.any_eq_true, decide_eq_true_eq, List.mem_map]
  simp
theorem putT_new {kvs : List (List Int × PyData)} {k : List Int} {v : PyData} (h : k ∉ kvs.map (·.1)) : putT kvs k v = kvs ++ [(k, v)] := by
  unfold putT
  rw [if_neg]
  rw [List.any_eq_true]
  rintro ⟨p, hp, q⟩
  exact h (List.mem_map.mpr ⟨p, hp, of_decide_eq_true q⟩)
@[simp] theorem tkey_t (x : List Int) : tkey (.tuple (x.map .int)) = .ok x := by
  unfold tkey
  simp only [ints_map]
  rfl
section
variable {N : Env → Prop} {R : Ou → Prop} {ρ : Env}
theorem wp_dput {i : Nat} {k v : DE} {kvs : List (List Int × PyData)} {x y : PyData} {ns : List Int} (hi : ρ[i]? = some (.dc kvs)) (hv : v ρ = .ok y) (hk : k ρ = .ok x) (hx : tkey x = .ok ns) (hl : kvs.length < 1000000) (h : N (ρ.set i (.dc (putT kvs ns y)))) : W (sDput i k v ρ) N R := by
  unfold sDput; rw [hi]; simp only [hv, hk, hx, bE_ok]; rw [if_pos (show kvs.length < lim from hl)]; exact h
theorem wp_dic1 {i : Nat} {k v : DE} {x y : PyData} {ns : List Int} (hk : k ρ = .ok x) (hv : v ρ = .ok y) (hx : tkey x = .ok ns) (h : N (ρ.set i (.dc [(ns, y)]))) : W (sDic1 i k v ρ) N R := by
  unfold sDic1; simp only [hk, hv, hx, bE_ok]; exact h
theorem wp_pop {j i : Nat} {ds : List PyData} {d : PyData} (hi : ρ[i]? = some (.ow ds)) (hd : ds.getLast? = some d) (h : N ((ρ.set i (.ow ds.dropLast)).set j (.fz d))) : W (sPop j i ρ) N R := by
  unfold sPop; rw [hi]; simp only [hd]; exact h
end
/-! MsK4: the room. -/
theorem rm_shut {n m : Int} {ps : List (Int × Int)} (h : GoodWeb n m ps) {ms : List Int} (hg : GoodMarks n ps ms) {K : List (List Int)} (h0 : ms ∈ K) (hr : ∀ x ∈ K, Rm ps ms x) (hs : ∀ x ∈ K, ∀ g ∈ goalsM n ps x, g ∈ K) : ∀ x, x ∈ K ↔ Rm ps ms x := fun x => by
  refine ⟨hr x, fun r => ?_⟩
  induction r with
  | refl => exact h0
  | step r1 hsl ih => exact hs _ ih _ ((goals_mem h (r1.good h hg).1).mpr ⟨_, _, hsl, rfl⟩)
/-- the room, in no turn -/
def IsRm (ps : List (Int × Int)) (ms : List Int) (K : List (List Int)) : Prop := K.Nodup ∧ ∀ x, x ∈ K ↔ Rm ps ms x
theorem IsRm.perm {ps : List (Int × Int)} {ms : List Int} {K L : List (List Int)} (h : IsRm ps ms K) (k : IsRm ps ms L) : K.Perm L := (List.perm_ext_iff_of_nodup h.1 k.1).mpr fun x => (h.2 x).trans (k.2 x).symm
theorem IsRm.sorted {ps : List (Int × Int)} {ms : List Int} {K : List (List Int)} (h : IsRm ps ms K) : IsRm ps ms (sortT K) := ⟨(sortT_perm K).nodup_iff.mpr h.1, fun x => (sortT_perm K).mem_iff.trans (h.2 x)⟩
def newsT (K : List (List Int)) (cs : List (List Int)) : List (List Int) := newsBy id K cs
theorem newsT_snoc (K cs : List (List Int)) (c : List Int) : newsT K (cs ++ [c]) = if c ∈ K ++ newsT K cs then newsT K cs else newsT K cs ++ [c] := by
  have := newsBy_snoc (key := id) (K := K) cs c
  rw [List.map_id] at this
  by_cases q : c ∈ K ++ newsT K cs
  · rw [if_pos q]; exact this.trans (if_pos q)
  · rw [if_neg q]; exact this.trans (if_neg q)
theorem newsT_sub {K cs : List (List Int)} {c : List Int} (h : c ∈ newsT K cs) : c ∈ cs := newsBy_sub h
theorem newsT_nodup {K cs : List (List Int)} (h : K.Nodup) : (K ++ newsT K cs).Nodup := by
  have := newsBy_nodup (key := id) (cs := cs) h
  rwa [List.map_id] at this
theorem newsT_all {K cs : List (List Int)} {c : List Int} (h : c ∈ cs) : c ∈ K ++ newsT K cs := by
  have := newsBy_all (key := id) (K := K) h
  rwa [List.map_id] at this
def kvT (K : List (List Int)) : List (List Int × PyData) := K.map fun m => (m, PyData.bool true)
theorem kvT_keys (K : List (List Int)) : (kvT K).map (·.1) = K := by
  unfold kvT
  rw [List.map_map]
  exact List.map_id' K
theorem goals_at {n : Int} {ps : List (Int × Int)} {x : List Int} {j : Nat} {p : Int × Int} (h : (slidesM n ps x)[j]? = some p) : (goalsM n ps x).take (j + 1) = (goalsM n ps x).take j ++ [movedM x p.1 p.2] := by
  unfold goalsM
  rw [List.take_add_one, List.getElem?_map, h]
  rfl
section
variable {n m : Int} {ps : List (Int × Int)} (h : GoodWeb n m ps) (hm : m ≤ 12) {ms : List Int} (hg : GoodMarks n ps ms) (hl : ms.length ≤ 4)
include h hm hg hl
theorem rm_le {K : List (List Int)} (hK : K.Nodup) (hr : ∀ x ∈ K, Rm ps ms x) : K.length ≤ 20736 :=
  known_le (n := n) (by have := h.2.1; omega) hl hK fun x hx => by
    have := (hr x hx).good h hg
    exact ⟨this.1.1, this.1.2.1, this.2⟩
theorem rm_news {K : List (List Int)} (hr : ∀ x ∈ K, Rm ps ms x) {here : List Int} (hh : here ∈ K) (j : Nat) : ∀ x ∈ K ++ newsT K ((goalsM n ps here).take j), Rm ps ms x := fun x hx => by
  rcases List.mem_append.mp hx with q | q
  · exact hr x q
  · have h1 := hr here hh
    obtain ⟨a, b, hs, rfl⟩ := (goals_mem h (h1.good h hg).1).mp (List.mem_of_mem_take (newsT_sub q))
    exact .step h1 hs
theorem look_good : d_look_marks [.fz (webP n ps), .fz (tupI ms)] = .ok .none := by
  rw [look_marks_den n ps ms (good_ok h hm) (by have := h.2.2.2.2; omega) (by omega), marks_up hg.1 hg.2.1, hg.2.2]
  rfl
theorem room_den : ∃ K, IsRm ps ms K ∧ d_room [.fz (webP n ps), .fz (tupI ms)] = .ok (.list ((sortT K).map tupI)) := by
  have hlm := look_good h hm hg hl
  have hnd := near_den h hm
  rw [besD_near] at hnd
  refine run_ex (Q := fun r => ∃ K, IsRm ps ms K ∧ r = .ok (.list ((sortT K).map tupI))) [.fz (webP n ps), .fz (tupI ms), .nil, .nil, .nil, .nil, .nil, .nil, .nil] ?_
  refine wp_seq (wp_expr (d := .none) (by simp [hlm]) ?_)
  refine wp_seq (wp_set (d := besD (nbr ps) n.toNat) (by simp [hnd]) ?_)
  refine wp_seq (wp_dic1 (x := tupI ms) (y := .bool true) (ns := ms) rfl rfl (tkey_t ms) ?_)
  refine wp_seq (wp_own (ds := [tupI ms]) rfl ?_)
  refine wp_seq (wp_while (fun z ρ => ∃ K L s5 s6 s7 s8, ρ = [.fz (webP n ps), .fz (tupI ms), .fz (besD (nbr ps) n.toNat), .dc (kvT K), .ow (L.map tupI), s5, s6, s7, s8] ∧ K.Nodup ∧ ms ∈ K ∧ (∀ x ∈ K, Rm ps ms x) ∧ (∀ x ∈ L, x ∈ K) ∧ (∀ x ∈ K, x ∈ L ∨ ∀ g ∈ goalsM n ps x, g ∈ K) ∧ z = 2 * (20736 - K.length) + L.length ∧ L.length ≤ K.length) (m := 2 * (20736 - 1) + 1) (by decide) ⟨[ms], [ms], _, _, _, _, rfl, by simp, by simp, fun x hx => ?_, fun x hx => hx, fun x hx => .inl hx, by simp, by simp⟩ ?_)
  · have : x = ms := by simpa using hx
    subst this
    exact .refl
  rintro z ρ ⟨K, L, s5, s6, s7, s8, rfl, k1, k2, k3, k4, k5, rfl, k6⟩
  rcases List.eq_nil_or_concat L with rfl | ⟨L, here, rfl⟩
  · left
    refine ⟨rfl, ?_⟩
    have hK : IsRm ps ms K := ⟨k1, rm_shut h hg k2 k3 fun x hx => (k5 x hx).resolve_left (by simp)⟩
    refine wp_ret (d := .list ((sortT K).map tupI)) ?_ ⟨K, hK, rfl⟩
    have e : (kvT K).map (fun p => PyData.tuple (p.1.map .int)) = K.map tupI := by
      unfold kvT
      rw [List.map_map]
      rfl
    have o : sortS (.dc (kvT K)) = .ok ((sortT K).map tupI) := by
      show sortD ((kvT K).map fun p => PyData.tuple (p.1.map .int)) = _
      rw [e]
      exact sortD_tups (by have := rm_le h hm hg hl k1 k3; omega) (fun x hx => ((k3 x hx).good h hg).2) k1
    simp [o]
  · right
    rw [List.concat_eq_append] at *
    have hh : here ∈ K := k4 here (by simp)
    have hgh := (k3 here hh).good h hg
    refine ⟨by simp, ?_⟩
    refine wp_seq (wp_pop (ds := (L ++ [here]).map tupI) (d := tupI here) rfl (by simp) ?_)
    have hsl := slides_of_den h hm (ms := here) hgh.1.2.1 (by omega)
    have hle : ∀ j, (K ++ newsT K ((goalsM n ps here).take j)).length ≤ 20736 := fun j => rm_le h hm hg hl (newsT_nodup k1) (rm_news h hm hg hl k3 hh j)
    rw [List.length_append] at k6
    simp only [List.length_singleton] at k6
    refine wp_for (ds := (slidesM n ps here).map prD) (by simp [hsl]) (fun j ρ => ∃ s6 s7 s8, ρ = [.fz (webP n ps), .fz (tupI ms), .fz (besD (nbr ps) n.toNat), .dc (kvT (K ++ newsT K ((goalsM n ps here).take j))), .ow ((L ++ newsT K ((goalsM n ps here).take j)).map tupI), .fz (tupI here), s6, s7, s8]) ⟨s6, s7, s8, ?_⟩ ?_ ?_
    · simp [newsT, newsBy, newsGo]
    · rintro j d ρ hd ⟨t6, t7, t8, rfl⟩
      rw [List.getElem?_map] at hd
      cases ea : (slidesM n ps here)[j]? with
      | none => rw [ea] at hd; cases hd
      | some p =>
        rw [ea] at hd
        cases hd
        obtain ⟨a, b⟩ := p
        have hmv := moved_den here a b (by omega)
        have hlj := hle j
        rw [List.length_append] at hlj
        have hlK : K.length ≤ 20736 := by omega
        rw [goals_at ea, newsT_snoc]
        generalize newsT K ((goalsM n ps here).take j) = N at hlj ⊢
        refine ⟨_, rfl, ?_⟩
        refine wp_seq (wp_set (d := tupI (movedM here a b)) (by simp [setAll, prD, hmv]) ?_)
        refine wp_if (b := !decide (movedM here a b ∈ K ++ N)) ?_ (fun q => ?_) (fun q => ?_)
        · simp only [setAll, prD, List.set_cons_succ, List.set_cons_zero, tNin_e, dVar_e, bVar_e, List.getElem?_cons_succ, List.getElem?_cons_zero, Rs.bind_ok, cIn_dc, kvT_keys]
        · have q' : movedM here a b ∉ K ++ N := by rw [Bool.not_eq_true'] at q; exact of_decide_eq_false q
          rw [if_neg q']
          refine wp_seq (wp_dput (kvs := kvT (K ++ N)) (x := tupI (movedM here a b)) (y := .bool true) rfl rfl rfl (tkey_t _) (by unfold kvT; rw [List.length_map, List.length_append]; omega) ?_)
          rw [putT_new (by rw [kvT_keys]; exact q')]
          refine wp_app (ds := (L ++ N).map tupI) (d := tupI (movedM here a b)) rfl rfl (by rw [List.length_map, List.length_append]; omega) ⟨.fz (.int a), .fz (.int b), .fz (tupI (movedM here a b)), ?_⟩
          have e1 : kvT (K ++ (N ++ [movedM here a b])) = kvT (K ++ N) ++ [(movedM here a b, .bool true)] := by
            unfold kvT
            rw [← List.append_assoc, List.map_append (l₂ := [movedM here a b])]
            rfl
          rw [e1, ← List.append_assoc, List.map_append (l₂ := [movedM here a b])]
          rfl
        · have q' : movedM here a b ∈ K ++ N := by rw [Bool.not_eq_false'] at q; exact of_decide_eq_true q
          rw [if_pos q']
          exact wp_nx ⟨.fz (.int a), .fz (.int b), .fz (tupI (movedM here a b)), rfl⟩
    · rintro ρ ⟨t6, t7, t8, rfl⟩
      have hgl : (goalsM n ps here).length = ((slidesM n ps here).map prD).length := by unfold goalsM; rw [List.length_map, List.length_map]
      rw [← hgl, List.take_length]
      have hlj := hle (goalsM n ps here).length
      rw [List.take_length, List.length_append] at hlj
      have kn := newsT_nodup (cs := goalsM n ps here) k1
      have kr := rm_news h hm hg hl k3 hh (goalsM n ps here).length
      rw [List.take_length] at kr
      refine ⟨_, ?_, K ++ newsT K (goalsM n ps here), L ++ newsT K (goalsM n ps here), _, t6, t7, t8, rfl, kn, List.mem_append_left _ k2, kr, fun x hx => ?_, fun x hx => ?_, rfl, ?_⟩
      · rw [List.length_append, List.length_append, List.length_append, List.length_singleton]
        omega
      · rcases List.mem_append.mp hx with q | q
        · exact List.mem_append_left _ (k4 x (List.mem_append_left _ q))
        · exact List.mem_append_right _ q
      · rcases List.mem_append.mp hx with q | q
        · rcases k5 x q with r | r
          · rcases List.mem_append.mp r with r | r
            · exact .inl (List.mem_append_left _ r)
            · have : x = here := by simpa using r
              subst this
              exact .inr fun g hgg => newsT_all hgg
          · exact .inr fun g hgg => List.mem_append_left _ (r g hgg)
        · exact .inl (List.mem_append_right _ q)
      · rw [List.length_append, List.length_append]
        omega
end
/-! MsK5: the law's room. -/
section
variable {n m : Int} {ps : List (Int × Int)} (h : GoodWeb n m ps) (hm : m ≤ 12) {ms : List Int} (hg : GoodMarks n ps ms) (hl : ms.length ≤ 4)
include h hm hg hl
end
/-! MsK6: the levels of a search, plain. -/
abbrev Row := List (Int × Int)
abbrev RT := Row × List Int
def rowD (r : Row) : PyData := .list (r.map prD)
def rtD (c : RT) : PyData := .tuple [rowD c.1, tupI c.2]
def candsM (n : Int) (ps : List (Int × Int)) (c : RT) : List RT := (slidesM n ps c.2).map fun p => (c.1 ++ [p], movedM c.2 p.1 p.2)
def keysR (A : List RT) : List (List Int) := A.map (·.2)
def newsR (A : List RT) (cs : List RT) : List RT := newsBy (·.2) (keysR A) cs
def sortR (l : List RT) : List RT := l.mergeSort (PySem.W.dataLe false rtD)
theorem sortR_perm (l : List RT) : (sortR l).Perm l := List.mergeSort_perm _ _
theorem newsR_snoc (A cs : List RT) (c : RT) : newsR A (cs ++ [c]) = if c.2 ∈ keysR (A ++ newsR A cs) then newsR A cs else newsR A cs ++ [c] := by
  have := newsBy_snoc (key := fun c : RT => c.2) (K := keysR A) cs c
  have e : keysR (A ++ newsR A cs) = keysR A ++ (newsBy (fun c : RT => c.2) (keysR A) cs).map (fun c => c.2) := by unfold keysR newsR; rw [List.map_append]; rfl
  rw [e]
  by_cases q : c.2 ∈ keysR A ++ (newsBy (fun c : RT => c.2) (keysR A) cs).map (fun c => c.2)
  · rw [if_pos q]; exact this.trans (if_pos q)
  · rw [if_neg q]; exact this.trans (if_neg q)
theorem newsR_sub {A cs : List RT} {c : RT} (h : c ∈ newsR A cs) : c ∈ cs := newsBy_sub h
theorem newsR_nodup {A cs : List RT} (h : (keysR A).Nodup) : (keysR (A ++ newsR A cs)).Nodup := by
  have := newsBy_nodup (key := fun c : RT => c.2) (cs := cs) h
  unfold keysR newsR
  rw [List.map_append]
  exact this
theorem newsR_all {A cs : List RT} {c : RT} (h : c ∈ cs) : c.2 ∈ keysR (A ++ newsR A cs) := by
  have := newsBy_all (key := fun c : RT => c.2) (K := keysR A) h
  unfold keysR newsR
  rw [List.map_append]
  exact this
theorem cands_at {n : Int} {ps : List (Int × Int)} {c : RT} {j : Nat} {p : Int × Int} (h : (slidesM n ps c.2)[j]? = some p) : (candsM n ps c).take (j + 1) = (candsM n ps c).take j ++ [(c.1 ++ [p], movedM c.2 p.1 p.2)] := by
  unfold candsM
  rw [List.take_add_one, List.getElem?_map, h]
  rfl
/-- the levels, and all that is found -/
def wst (n : Int) (ps : List (Int × Int)) (ms : List Int) : Nat → List RT × List RT
  | 0 => ([([], ms)], [([], ms)])
  | t + 1 =>
    let s := wst n ps ms t
    (sortR (newsR s.2 (s.1.flatMap (candsM n ps))), s.2 ++ newsR s.2 (s.1.flatMap (candsM n ps)))
def lookR (g : List Int) : List RT → Option Row
  | [] => none
  | c :: A => if c.2 = g then some c.1 else lookR g A
theorem lookR_none {g : List Int} : ∀ {A : List RT}, lookR g A = none ↔ g ∉ keysR A
  | [] => by simp [lookR, keysR]
  | c :: A => by
    unfold lookR
    have ih := lookR_none (g := g) (A := A)
    unfold keysR at ih ⊢
    by_cases q : c.2 = g
    · simp [q]
    · rw [if_neg q, ih, List.map_cons, List.mem_cons]
      simp [Ne.symm q]
theorem lookR_some {g : List Int} {r : Row} : ∀ {A : List RT}, (keysR A).Nodup → (r, g) ∈ A → lookR g A = some r
  | c :: A, hn, h => by
    unfold keysR at hn
    rw [List.map_cons, List.nodup_cons] at hn
    unfold lookR
    rcases List.mem_cons.mp h with rfl | h
    · rw [if_pos rfl]
    · have : c.2 ≠ g := fun q => hn.1 (List.mem_map.mpr ⟨_, h, q.symm⟩)
      rw [if_neg this]
      exact lookR_some hn.2 h
def kvR (A : List RT) : List (List Int × PyData) := A.map fun c => (c.2, rowD c.1)
theorem kvR_keys (A : List RT) : (kvR A).map (·.1) = keysR A := by
  unfold kvR keysR
  rw [List.map_map]
  rfl
theorem getT_kvR (g : List Int) : ∀ A : List RT, getT (kvR A) g = (lookR g A).map rowD
  | [] => rfl
  | c :: A => by
    show getT ((c.2, rowD c.1) :: kvR A) g = _
    unfold getT lookR
    by_cases q : c.2 = g
    · simp [q]
    · rw [if_neg q, if_neg q]
      exact getT_kvR g A
theorem sh_pr (p : Int × Int) : shN 2 (prD p) := sh_tuple fun d hd => by
  have : d = .int p.1 ∨ d = .int p.2 := by simpa using hd
  rcases this with rfl | rfl
  · exact sh_int _
  · exact sh_int _
theorem sh_row (r : Row) : shN 3 (rowD r) := sh_list (sh_map sh_pr r)
theorem sh_rt (c : RT) : shN 4 (rtD c) := sh_tuple fun d hd => by
  have : d = rowD c.1 ∨ d = tupI c.2 := by simpa using hd
  rcases this with rfl | rfl
  · exact sh_row _
  · exact sh_mono (sh_tupI _) (by decide)
theorem alike_pairs : ∀ l m : List (Int × Int), PySem.W.alikeAll (l.map prD) (m.map prD) = true
  | [], _ => by simp [PySem.W.alikeAll]
  | _ :: _, [] => by simp [PySem.W.alikeAll]
  | a :: l, b :: m => by
    rw [List.map_cons, List.map_cons, PySem.W.alikeAll, alike_pairs l m]
    simp [prD, PySem.W.alike, PySem.W.alikeAll]
theorem sortD_rts {l : List RT} (hl : l.length ≤ 1000000) : sortD (l.map rtD) = .ok ((sortR l).map rtD) :=
  sortD_f hl (sortOk_f (fun a _ b _ => by simp [rtD, rowD, PySem.W.alike, PySem.W.alikeAll, PySem.W.alike_ints, alike_pairs]) (.inl fun _ _ => rfl) fun a _ => by have := (sh_rt a).2; omega)
theorem least {P : Nat → Prop} : ∀ {t : Nat}, P t → ∃ T, T ≤ t ∧ P T ∧ ∀ u, u < T → ¬ P u := by
  intro t
  induction t using Nat.strongRecOn with
  | ind t ih =>
    intro h
    by_cases q : ∃ u, u < t ∧ P u
    · obtain ⟨u, hu, hp⟩ := q
      obtain ⟨T, h1, h2, h3⟩ := ih u hu hp
      exact ⟨T, by omega, h2, h3⟩
    · exact ⟨t, Nat.le_refl _, h, fun u hu hp => q ⟨u, hu, hp⟩⟩

structure WInv (n : Int) (ps : List (Int × Int)) (ms : List Int) (t : Nat) (s : List RT × List RT) : Prop where
  nd : (keysR s.2).Nodup
  rm : ∀ c ∈ s.2, Rm ps ms c.2
  sub : ∀ c ∈ s.1, c ∈ s.2
  root : ([], ms) ∈ s.2
  len : ∀ c ∈ s.2, c.1.length ≤ t
  shut : ∀ x ∈ keysR s.2, x ∈ keysR s.1 ∨ ∀ g ∈ goalsM n ps x, g ∈ keysR s.2
section
variable {n m : Int} {ps : List (Int × Int)} (h : GoodWeb n m ps) {ms : List Int} (hg : GoodMarks n ps ms)
include h hg
theorem cands_rm {c : RT} (hc : Rm ps ms c.2) {d : RT} (hd : d ∈ candsM n ps c) : Rm ps ms d.2 := by
  unfold candsM at hd
  obtain ⟨p, hp, rfl⟩ := List.mem_map.mp hd
  exact .step hc ((slides_mem h (hc.good h hg).1).mp hp)
theorem winv : ∀ t, WInv n ps ms t (wst n ps ms t)
  | 0 => by
    refine ⟨by simp [wst, keysR], fun c hc => ?_, fun c hc => hc, by simp [wst], fun c hc => ?_, fun x hx => .inl hx⟩
    · have : c = ([], ms) := by simpa [wst] using hc
      subst this
      exact .refl
    · have : c = ([], ms) := by simpa [wst] using hc
      subst this
      exact Nat.le_refl _
  | t + 1 => by
    obtain ⟨i1, i2, i3, i4, i5, i6⟩ := winv t
    show WInv n ps ms (t + 1) (sortR _, _)
    generalize wst n ps ms t = s at *
    have hN : ∀ c ∈ newsR s.2 (s.1.flatMap (candsM n ps)), ∃ d ∈ s.1, c ∈ candsM n ps d := fun c hc => List.mem_flatMap.mp (newsR_sub hc)
    refine ⟨newsR_nodup i1, fun c hc => ?_, fun c hc => ?_, List.mem_append_left _ i4, fun c hc => ?_, fun x hx => ?_⟩
    · rcases List.mem_append.mp hc with q | q
      · exact i2 c q
      · obtain ⟨d, hd, hcd⟩ := hN c q
        exact cands_rm h hg (i2 d (i3 d hd)) hcd
    · exact List.mem_append_right _ ((sortR_perm _).mem_iff.mp hc)
    · rcases List.mem_append.mp hc with q | q
      · have := i5 c q
        omega
      · obtain ⟨d, hd, hcd⟩ := hN c q
        have := i5 d (i3 d hd)
        unfold candsM at hcd
        obtain ⟨p, _, rfl⟩ := List.mem_map.mp hcd
        simp only [List.length_append, List.length_singleton]
        omega
    · have hkA : keysR (s.2 ++ newsR s.2 (s.1.flatMap (candsM n ps))) = keysR s.2 ++ keysR (newsR s.2 (s.1.flatMap (candsM n ps))) := by unfold keysR; rw [List.map_append]
      rw [hkA] at hx
      rcases List.mem_append.mp hx with q | q
      · right
        intro g hgg
        rcases i6 x q with r | r
        · obtain ⟨c, hc, rfl⟩ := List.mem_map.mp r
          unfold goalsM at hgg
          obtain ⟨p, hp, rfl⟩ := List.mem_map.mp hgg
          have : (c.1 ++ [p], movedM c.2 p.1 p.2) ∈ s.1.flatMap (candsM n ps) := List.mem_flatMap.mpr ⟨c, hc, List.mem_map.mpr ⟨p, hp, rfl⟩⟩
          exact newsR_all this
        · rw [hkA]
          exact List.mem_append_left _ (r g hgg)
      · left
        unfold keysR at q ⊢
        obtain ⟨c, hc, rfl⟩ := List.mem_map.mp q
        exact List.mem_map.mpr ⟨c, (sortR_perm _).mem_iff.mpr hc, rfl⟩
theorem w_mono {t : Nat} {c : RT} (hc : c ∈ (wst n ps ms (t + 1)).2) : c ∈ (wst n ps ms t).2 ∨ c ∈ (wst n ps ms (t + 1)).1 := by
  rcases List.mem_append.mp hc with q | q
  · exact .inl q
  · exact .inr ((sortR_perm _).mem_iff.mpr q)
variable (hm : m ≤ 12) (hl : ms.length ≤ 4)
include hm hl
theorem w_le (t : Nat) : (wst n ps ms t).2.length ≤ 20736 := by
  have i := winv h hg t
  have := rm_le h hm hg hl i.nd fun x hx => by
    obtain ⟨c, hc, rfl⟩ := List.mem_map.mp hx
    exact i.rm c hc
  unfold keysR at this
  rwa [List.length_map] at this
/-- the turn at which the search ends -/
theorem w_end (g : List Int) : ∃ T, T ≤ 20736 ∧ ((wst n ps ms T).1 = [] ∨ g ∈ keysR (wst n ps ms T).2) ∧ ∀ u, u < T → (wst n ps ms u).1 ≠ [] ∧ g ∉ keysR (wst n ps ms u).2 := by
  have key : ∀ t, (∃ u, u ≤ t ∧ ((wst n ps ms u).1 = [] ∨ g ∈ keysR (wst n ps ms u).2)) ∨ t + 1 ≤ (wst n ps ms t).2.length := by
    intro t
    induction t with
    | zero => exact .inr (by simp [wst])
    | succ t ih =>
      rcases ih with ⟨u, hu, q⟩ | ih
      · exact .inl ⟨u, by omega, q⟩
      · by_cases q : (wst n ps ms (t + 1)).1 = []
        · exact .inl ⟨t + 1, Nat.le_refl _, .inl q⟩
        · right
          have h1 : (wst n ps ms (t + 1)).1.length = (newsR (wst n ps ms t).2 ((wst n ps ms t).1.flatMap (candsM n ps))).length := (sortR_perm _).length_eq
          have h2 := List.length_pos_iff.mpr q
          show _ ≤ ((wst n ps ms t).2 ++ newsR (wst n ps ms t).2 ((wst n ps ms t).1.flatMap (candsM n ps))).length
          rw [List.length_append]
          omega
  rcases key 20736 with ⟨u, hu, q⟩ | q
  · obtain ⟨T, t1, t2, t3⟩ := least (P := fun t => (wst n ps ms t).1 = [] ∨ g ∈ keysR (wst n ps ms t).2) q
    exact ⟨T, by omega, t2, fun u hu => ⟨fun e => t3 u hu (.inl e), fun e => t3 u hu (.inr e)⟩⟩
  · have := w_le h hg hm hl 20736
    omega
end
theorem w_none {n m : Int} {ps : List (Int × Int)} (h : GoodWeb n m ps) {ms : List Int} (hg : GoodMarks n ps ms) {g : List Int} {T : Nat} (hT : (wst n ps ms T).1 = [] ∨ g ∈ keysR (wst n ps ms T).2) : lookR g (wst n ps ms T).2 = none ↔ ¬ Rm ps ms g := by
  have i := winv h hg T
  rw [lookR_none]
  constructor
  · intro q
    rcases hT with e | e
    · have : ∀ x, x ∈ keysR (wst n ps ms T).2 ↔ Rm ps ms x := rm_shut h hg (List.mem_map.mpr ⟨_, i.root, rfl⟩) (fun x hx => by
        obtain ⟨c, hc, rfl⟩ := List.mem_map.mp hx
        exact i.rm c hc) fun x hx => (i.shut x hx).resolve_left (by rw [e]; simp [keysR])
      rwa [← this]
    · exact absurd e q
  · intro q e
    obtain ⟨c, hc, rfl⟩ := List.mem_map.mp e
    exact q (i.rm c hc)
/-! MsK7: the fewest slides: the program's search and the law's. -/
/-- what is told of a way -/
def resD : Option Row → PyData
  | none => .none
  | some r => rowD r
theorem look_two_den {n : Int} {ps : List (Int × Int)} {ms g : List Int} (hok : okWeb n (ps.map pl) = true) (hp : ps.length ≤ 1000) (h1 : ms.length < 60) (h2 : g.length < 60) : d_look_two [.fz (webP n ps), .fz (tupI ms), .fz (tupI g)] = if isMarks n ps ms = true then (if isMarks n ps g = true then (if ms.length = g.length then .ok .none else .er .unlike) else .er .marks) else .er .marks := by
  have e1 := look_marks_den n ps ms hok hp h1
  have e2 := look_marks_den n ps g hok hp h2
  refine wp_run [.fz (webP n ps), .fz (tupI ms), .fz (tupI g)] ?_
  by_cases q1 : isMarks n ps ms = true
  · rw [if_pos q1] at e1 ⊢
    refine wp_seq (wp_expr (d := .none) (by simp [e1]) ?_)
    by_cases q2 : isMarks n ps g = true
    · rw [if_pos q2] at e2 ⊢
      refine wp_seq (wp_expr (d := .none) (by simp [e2]) ?_)
      refine wp_if (b := !decide ((ms.length : Int) = g.length)) (by simp) (fun q => ?_) (fun q => ?_)
      · rw [if_neg (by simp at q; omega)]
        exact wp_raise rfl
      · rw [if_pos (by simp at q; omega)]
        exact wp_nx rfl
    · rw [if_neg q2] at e2 ⊢
      exact wp_seq (wp_expr_er (k := .marks) (by simp [e2]) rfl)
  · rw [if_neg q1] at e1 ⊢
    exact wp_seq (wp_expr_er (k := .marks) (by simp [e1]) rfl)
theorem newsR_nil (A : List RT) : newsR A [] = [] := rfl
theorem flat_take {α β : Type} (f : α → List β) (l : List α) {i : Nat} {x : α} (h : l[i]? = some x) : (l.take (i + 1)).flatMap f = (l.take i).flatMap f ++ (f x).take (f x).length := by
  rw [take_flat f h, List.take_length]
section
variable {n m : Int} {ps : List (Int × Int)} (h : GoodWeb n m ps) (hm : m ≤ 12) {ms : List Int} (hg : GoodMarks n ps ms) (hl : ms.length ≤ 4)
include h hm hg hl
theorem newsR_le {t : Nat} (cs : List RT) (hc : ∀ c ∈ cs, Rm ps ms c.2) : ((wst n ps ms t).2 ++ newsR (wst n ps ms t).2 cs).length ≤ 20736 := by
  have i := winv h hg t
  have := rm_le h hm hg hl (newsR_nodup (cs := cs) i.nd) fun x hx => by
    obtain ⟨c, hc', rfl⟩ := List.mem_map.mp hx
    rcases List.mem_append.mp hc' with q | q
    · exact i.rm c q
    · exact hc c (newsR_sub q)
  unfold keysR at this
  rwa [List.length_map] at this
theorem part_rm {t i j : Nat} {c : RT} (hc : (wst n ps ms t).1[i]? = some c) : ∀ d ∈ ((wst n ps ms t).1.take i).flatMap (candsM n ps) ++ (candsM n ps c).take j, Rm ps ms d.2 := fun d hd => by
  have iv := winv h hg t
  rcases List.mem_append.mp hd with q | q
  · obtain ⟨e, he, hde⟩ := List.mem_flatMap.mp q
    exact cands_rm h hg (iv.rm e (iv.sub e (List.mem_of_mem_take he))) hde
  · exact cands_rm h hg (iv.rm c (iv.sub c (List.mem_of_getElem? hc))) (List.mem_of_mem_take q)
theorem fewest_den {g : List Int} (hgg : GoodMarks n ps g) (hgl : g.length = ms.length) {T : Nat} (t1 : T ≤ 20736) (t2 : (wst n ps ms T).1 = [] ∨ g ∈ keysR (wst n ps ms T).2) (t3 : ∀ u, u < T → (wst n ps ms u).1 ≠ [] ∧ g ∉ keysR (wst n ps ms u).2) : d_fewest [.fz (webP n ps), .fz (tupI ms), .fz (tupI g)] = .ok (resD (lookR g (wst n ps ms T).2)) := by
  have hlt : d_look_two [.fz (webP n ps), .fz (tupI ms), .fz (tupI g)] = .ok .none := by
    rw [look_two_den (good_ok h hm) (by have := h.2.2.2.2; omega) (by omega) (by omega), marks_up hg.1 hg.2.1, hg.2.2, marks_up hgg.1 hgg.2.1, hgg.2.2, if_pos hgl.symm]
    rfl
  have hnd := near_den h hm
  rw [besD_near] at hnd
  refine wp_run [.fz (webP n ps), .fz (tupI ms), .fz (tupI g), .nil, .nil, .nil, .nil, .nil, .nil, .nil, .nil, .nil] ?_
  refine wp_seq (wp_expr (d := .none) (by simp [hlt]) ?_)
  refine wp_seq (wp_set (d := besD (nbr ps) n.toNat) (by simp [hnd]) ?_)
  refine wp_seq (wp_dic1 (x := tupI ms) (y := rowD []) (ns := ms) rfl rfl (tkey_t ms) ?_)
  refine wp_seq (wp_set (d := .list [tupI ms]) rfl ?_)
  refine wp_seq (wp_while (fun z ρ => ∃ (t : Nat) (s6 s7 s8 s9 s10 s11 : Sl), ρ = [.fz (webP n ps), .fz (tupI ms), .fz (tupI g), .fz (besD (nbr ps) n.toNat), .dc (kvR (wst n ps ms t).2), .fz (.list ((keysR (wst n ps ms t).1).map tupI)), s6, s7, s8, s9, s10, s11] ∧ t + z = T) (m := T) (by show T < 100000; omega) ⟨0, _, _, _, _, _, _, rfl, by omega⟩ ?_)
  rintro z ρ ⟨t, s6, s7, s8, s9, s10, s11, rfl, hz⟩
  have iv := winv h hg t
  have hguard : ∀ r, (tAnd (tTru (bVar 5)) (tNin (dVar 2) (bVar 4))) ([.fz (webP n ps), .fz (tupI ms), .fz (tupI g), .fz (besD (nbr ps) n.toNat), .dc (kvR (wst n ps ms t).2), .fz (.list ((keysR (wst n ps ms t).1).map tupI))] ++ r) = .ok (!decide ((wst n ps ms t).1 = []) && !decide (g ∈ keysR (wst n ps ms t).2)) := fun r => by
    have e1 : (keysR (wst n ps ms t).1).isEmpty = decide ((wst n ps ms t).1 = []) := by
      unfold keysR
      cases (wst n ps ms t).1 <;> simp
    simp only [List.cons_append, List.nil_append, tAnd_e, tTru_e, tNin_e, bVar_e, dVar_e, List.getElem?_cons_succ, List.getElem?_cons_zero, Rs.bind_ok, truS_l, cIn_dc, kvR_keys, List.isEmpty_map, e1]
    by_cases q : (wst n ps ms t).1 = [] <;> simp [q]
  have hgd := hguard [s6, s7, s8, s9, s10, s11]
  by_cases htT : t < T
  · right
    obtain ⟨q1, q2⟩ := t3 t htT
    refine ⟨?_, ?_⟩
    · rw [show (!decide ((wst n ps ms t).1 = []) && !decide (g ∈ keysR (wst n ps ms t).2)) = true by simp [q1, q2]] at hgd
      exact hgd
    -- a level
    have hstep : wst n ps ms (t + 1) = (sortR (newsR (wst n ps ms t).2 ((wst n ps ms t).1.flatMap (candsM n ps))), (wst n ps ms t).2 ++ newsR (wst n ps ms t).2 ((wst n ps ms t).1.flatMap (candsM n ps))) := rfl
    have hle := fun cs hcs => newsR_le h hm hg hl (t := t) cs hcs
    have hpr := fun i j c hc => part_rm h hm hg hl (t := t) (i := i) (j := j) (c := c) hc
    have hallrm : ∀ d ∈ (wst n ps ms t).1.flatMap (candsM n ps), Rm ps ms d.2 := fun d hd => by
      obtain ⟨e, he, hde⟩ := List.mem_flatMap.mp hd
      exact cands_rm h hg (iv.rm e (iv.sub e he)) hde
    have hfin := hle _ hallrm
    have hnodup := newsR_nodup (cs := (wst n ps ms t).1.flatMap (candsM n ps)) iv.nd
    have kvapp : ∀ A B : List RT, kvR (A ++ B) = kvR A ++ kvR B := fun A B => by unfold kvR; rw [List.map_append]
    have ht : t ≤ 20736 := by omega
    generalize hs : wst n ps ms t = s at *
    refine wp_seq (wp_own (ds := []) rfl ?_)
    refine wp_seq (wp_for (ds := (keysR s.1).map tupI) (by simp) (fun i ρ => ∃ s7 s8 s9 s10, ρ = [.fz (webP n ps), .fz (tupI ms), .fz (tupI g), .fz (besD (nbr ps) n.toNat), .dc (kvR (s.2 ++ newsR s.2 ((s.1.take i).flatMap (candsM n ps)))), .fz (.list ((keysR s.1).map tupI)), .ow ((keysR (newsR s.2 ((s.1.take i).flatMap (candsM n ps)))).map tupI), s7, s8, s9, s10, s11]) ⟨s7, s8, s9, s10, by simp [newsR_nil, keysR]⟩ ?_ ?_)
    · rintro i d ρ hd ⟨s7, s8, s9, s10, rfl⟩
      unfold keysR at hd
      rw [List.getElem?_map, List.getElem?_map] at hd
      cases ei : s.1[i]? with
      | none => rw [ei] at hd; cases hd
      | some c =>
        rw [ei] at hd
        cases hd
        obtain ⟨r, here⟩ := c
        have hcA : (r, here) ∈ s.2 := iv.sub _ (List.mem_of_getElem? ei)
        have hgh := (iv.rm _ hcA).good h hg
        simp only at hgh
        have hrl := iv.len _ hcA
        simp only at hrl
        have hsl := slides_of_den h hm (ms := here) hgh.1.2.1 (by omega)
        refine ⟨_, rfl, ?_⟩
        refine wp_for (ds := (slidesM n ps here).map prD) (by simp [hsl]) (fun j ρ => ∃ s8 s9 s10, ρ = [.fz (webP n ps), .fz (tupI ms), .fz (tupI g), .fz (besD (nbr ps) n.toNat), .dc (kvR (s.2 ++ newsR s.2 ((s.1.take i).flatMap (candsM n ps) ++ (candsM n ps (r, here)).take j))), .fz (.list ((keysR s.1).map tupI)), .ow ((keysR (newsR s.2 ((s.1.take i).flatMap (candsM n ps) ++ (candsM n ps (r, here)).take j))).map tupI), .fz (tupI here), s8, s9, s10, s11]) ⟨s8, s9, s10, by rw [List.take_zero, List.append_nil]; rfl⟩ ?_ ?_
        · rintro j d ρ hd ⟨t8, t9, t10, rfl⟩
          rw [List.getElem?_map] at hd
          cases ea : (slidesM n ps here)[j]? with
          | none => rw [ea] at hd; cases hd
          | some p =>
            rw [ea] at hd
            cases hd
            obtain ⟨a, b⟩ := p
            have hmv := moved_den here a b (by omega)
            have hlj := hle _ (hpr i j _ ei)
            have hndj := newsR_nodup (cs := (s.1.take i).flatMap (candsM n ps) ++ (candsM n ps (r, here)).take j) iv.nd
            rw [List.length_append] at hlj
            have ect := cands_at (c := (r, here)) ea
            rw [ect, ← List.append_assoc, newsR_snoc]
            generalize newsR s.2 ((s.1.take i).flatMap (candsM n ps) ++ (candsM n ps (r, here)).take j) = N at hlj hndj ⊢
            refine ⟨_, rfl, ?_⟩
            refine wp_seq (wp_set (d := tupI (movedM here a b)) (by simp [setAll, prD, hmv]) ?_)
            refine wp_if (b := !decide (movedM here a b ∈ keysR (s.2 ++ N))) ?_ (fun q => ?_) (fun q => ?_)
            · simp only [setAll, prD, List.set_cons_succ, List.set_cons_zero, tNin_e, dVar_e, bVar_e, List.getElem?_cons_succ, List.getElem?_cons_zero, Rs.bind_ok, cIn_dc, kvR_keys]
            · have q' : movedM here a b ∉ keysR (s.2 ++ N) := by rw [Bool.not_eq_true'] at q; exact of_decide_eq_false q
              rw [if_neg q']
              have hlook : lookR here (s.2 ++ N) = some r := lookR_some hndj (List.mem_append_left _ hcA)
              have hget : getT (kvR (s.2 ++ N)) here = some (rowD r) := by rw [getT_kvR, hlook]; rfl
              have hadd : opAdd (rowD r) (.list [.tuple [.int a, .int b]]) = .ok (rowD (r ++ [(a, b)])) := by
                unfold rowD
                rw [opAdd_lst _ _ (by rw [List.length_map, List.length_singleton]; omega), List.map_append]
                rfl
              refine wp_seq (wp_dput (kvs := kvR (s.2 ++ N)) (x := tupI (movedM here a b)) (y := rowD (r ++ [(a, b)])) rfl ?_ rfl (tkey_t _) (by unfold kvR; rw [List.length_map, List.length_append]; omega) ?_)
              · simp only [setAll, prD, List.set_cons_succ, List.set_cons_zero, dBin_e, dDget, dLst_e, lCons_e, lNil_e, dTup_e, dVar_e, List.getElem?_cons_succ, List.getElem?_cons_zero, Rs.bind_ok, tkey_t, hget, ofO_some, hadd]
              rw [putT_new (by rw [kvR_keys]; exact q')]
              refine wp_app (ds := (keysR N).map tupI) (d := tupI (movedM here a b)) rfl rfl (by unfold keysR; rw [List.length_map, List.length_map]; omega) ⟨.fz (.int a), .fz (.int b), .fz (tupI (movedM here a b)), ?_⟩
              have e1 : kvR (s.2 ++ (N ++ [(r ++ [(a, b)], movedM here a b)])) = kvR (s.2 ++ N) ++ [(movedM here a b, rowD (r ++ [(a, b)]))] := by
                rw [← List.append_assoc, kvapp]
                rfl
              have e2 : keysR (N ++ [(r ++ [(a, b)], movedM here a b)]) = keysR N ++ [movedM here a b] := by unfold keysR; rw [List.map_append]; rfl
              rw [e1, e2, List.map_append (l₂ := [movedM here a b])]
              rfl
            · have q' : movedM here a b ∈ keysR (s.2 ++ N) := by rw [Bool.not_eq_false'] at q; exact of_decide_eq_true q
              rw [if_pos q']
              exact wp_nx ⟨.fz (.int a), .fz (.int b), .fz (tupI (movedM here a b)), rfl⟩
        · rintro ρ ⟨t8, t9, t10, rfl⟩
          have hcl : ((slidesM n ps here).map prD).length = (candsM n ps (r, here)).length := by unfold candsM; rw [List.length_map, List.length_map]
          rw [hcl, List.take_length]
          exact ⟨.fz (tupI here), t8, t9, t10, by rw [take_flat _ ei]⟩
    · rintro ρ ⟨t7, t8, t9, t10, rfl⟩
      have hkl : ((keysR s.1).map tupI).length = s.1.length := by unfold keysR; rw [List.length_map, List.length_map]
      rw [hkl, List.take_length]
      generalize newsR s.2 (s.1.flatMap (candsM n ps)) = N at hfin hnodup hstep ⊢
      rw [List.length_append] at hfin
      have ec1 : ∀ ρw : Env, ρw[4]? = some (.dc (kvR (s.2 ++ N))) → 10 < ρw.length → ρw[6]? = some (.ow ((keysR N).map tupI)) → lComp (iSeq (bVar 6)) (gN 10) tYes (dTup (lCons (dDget 4 (dVar 10)) (lCons (dVar 10) lNil))) [10] ρw = .ok (N.map rtD) := fun ρw w1 w2 w3 => by
        refine lcomp_a (f := fun c : RT => tupI c.2) (xs := N) (by simp [w3, keysR]) rfl (by omega) fun c hc => ⟨_, rfl, ?_⟩
        have hlook : lookR c.2 (s.2 ++ N) = some c.1 := lookR_some hnodup (List.mem_append_right _ hc)
        have hget : getT (kvR (s.2 ++ N)) c.2 = some (rowD c.1) := by rw [getT_kvR, hlook]; rfl
        simp [wipeE, dDget, w1, w2, hget, rtD, List.getElem?_set_ne]
      refine wp_set (d := .list ((keysR (sortR N)).map tupI)) ?_ ⟨z - 1, by omega, t + 1, .ow ((keysR N).map tupI), t7, t8, t9, t10, s11, by rw [hstep]; rfl, by omega⟩
      have es : sortS (.fz (.list (N.map rtD))) = .ok ((sortR N).map rtD) := sortD_rts (by omega)
      have ec2 : ∀ ρw : Env, ρw[4]? = some (.dc (kvR (s.2 ++ N))) → ρw.length = 12 → ρw[6]? = some (.ow ((keysR N).map tupI)) → lComp (iSeq (bOf (dLst (lSorted (bOf (dLst (lComp (iSeq (bVar 6)) (gN 10) tYes (dTup (lCons (dDget 4 (dVar 10)) (lCons (dVar 10) lNil))) [10])))))) ) (gT [11, 10]) tYes (dVar 10) [11, 10] ρw = .ok ((sortR N).map fun c : RT => tupI c.2) := fun ρw w1 w2 w3 => by
        refine lcomp_a (f := rtD) (xs := sortR N) ?_ rfl (by rw [(sortR_perm N).length_eq]; omega) fun c hc => ⟨_, rfl, ?_⟩
        · rw [iSeq_e, bOf_e, dLst_e, lSorted_e, bOf_e, dLst_e, ec1 ρw w1 (by omega) w3]
          simp only [Rs.bind_ok, es, itS_l]
        · simp [setAll, wipeE, w2]
      rw [dLst_e, ec2 _ rfl rfl rfl]
      simp [keysR]
  · left
    have : t = T := by omega
    subst this
    refine ⟨?_, ?_⟩
    · rw [show (!decide ((wst n ps ms t).1 = []) && !decide (g ∈ keysR (wst n ps ms t).2)) = false by rcases t2 with q | q <;> simp [q]] at hgd
      exact hgd
    · refine wp_ret (d := resD (lookR g (wst n ps ms t).2)) ?_ rfl
      simp only [dDgetN, dVar_e, List.getElem?_cons_succ, List.getElem?_cons_zero, Rs.bind_ok, tkey_t, getT_kvR]
      cases lookR g (wst n ps ms t).2 <;> rfl
end
/-! MsK8: the law's way. -/
section
variable {n m : Int} {ps : List (Int × Int)} (h : GoodWeb n m ps) (hm : m ≤ 12) {ms : List Int} (hg : GoodMarks n ps ms) (hl : ms.length ≤ 4)
include h hm hg hl
end
/-! MsK9: told, bars, gone, the law's questions. -/
theorem good_of {n : Int} {ps : List (Int × Int)} {x : List Int} (h : isMarks n ps x = true) : GoodMarks n ps x := by
  unfold isMarks at h
  rw [Bool.and_eq_true, Bool.and_eq_true, decide_eq_true_eq] at h
  refine ⟨?_, fun s hs => of_decide_eq_true (List.all_eq_true.mp h.1.2 s hs), h.2⟩
  rw [h.1.1]
  exact upI_up x
theorem good_marks {n : Int} {ps : List (Int × Int)} {x : List Int} (h : GoodMarks n ps x) : isMarks n ps x = true := by rw [marks_up h.1 h.2.1, h.2.2]
def isRoomM (n : Int) (ps : List (Int × Int)) (S : List (List Int)) : Bool := S.all fun x => isMarks n ps x && (goalsM n ps x).all fun g => decide (g ∈ S)
theorem isRoom_take {n : Int} {ps : List (Int × Int)} {S : List (List Int)} {x : List Int} (hx : x ∈ S) (h : (isMarks n ps x && (goalsM n ps x).all fun g => decide (g ∈ S)) = false) : isRoomM n ps S = false := by
  unfold isRoomM
  refine Bool.eq_false_iff.mpr fun q => ?_
  have := List.all_eq_true.mp q x hx
  rw [h] at this
  cases this
theorem sl_len {n : Int} {ps : List (Int × Int)} (hp : ps.length < 60) {ms : List Int} (hl : ms.length ≤ 50) : (slidesM n ps ms).length ≤ 50000 := by
  have h1 := flat_len (f := slidesAt n ps ms) (c := 1000) (l := ms) fun a _ => by
    unfold slidesAt
    rw [List.length_map]
    exact Nat.le_trans (List.length_filter_le _ _) (nbr_len (by omega) a)
  unfold slidesM
  omega
theorem isRoom_rm {n m : Int} {ps : List (Int × Int)} (h : GoodWeb n m ps) {ms : List Int} (hg : GoodMarks n ps ms) {K : List (List Int)} (hK : IsRm ps ms K) : isRoomM n ps K = true := List.all_eq_true.mpr fun x hx => by
  have r := (hK.2 x).mp hx
  have hgx := (r.good h hg).1
  rw [Bool.and_eq_true]
  refine ⟨good_marks hgx, List.all_eq_true.mpr fun g hgg => decide_eq_true ((hK.2 g).mpr ?_)⟩
  obtain ⟨a, b, hs, rfl⟩ := (goals_mem h hgx).mp hgg
  exact .step r hs
section
variable {n m : Int} {ps : List (Int × Int)} (h : GoodWeb n m ps) (hm : m ≤ 12) {ms : List Int} (hg : GoodMarks n ps ms) (hl : ms.length ≤ 4)
include h hm hg hl
theorem look_two_good {g : List Int} (hgg : GoodMarks n ps g) (hgl : g.length ≤ 4) : d_look_two [.fz (webP n ps), .fz (tupI ms), .fz (tupI g)] = if ms.length = g.length then .ok .none else .er .unlike := by
  rw [look_two_den (good_ok h hm) (by have := h.2.2.2.2; omega) (by omega) (by omega), if_pos (good_marks hg), if_pos (good_marks hgg)]
theorem told_way {g : List Int} {r : Row} (hf : d_fewest [.fz (webP n ps), .fz (tupI ms), .fz (tupI g)] = .ok (resD (some r))) : d_told [.fz (webP n ps), .fz (tupI ms), .fz (tupI g)] = .ok (.tuple [.str "way", rowD r]) := by
  refine wp_run [.fz (webP n ps), .fz (tupI ms), .fz (tupI g), .nil] ?_
  refine wp_seq (wp_set (d := rowD r) (by simp [hf, resD]) ?_)
  exact wp_ret (d := .tuple [.str "way", rowD r]) (by simp [isN, rowD]) rfl
theorem told_room {g : List Int} {K : List (List Int)} (hf : d_fewest [.fz (webP n ps), .fz (tupI ms), .fz (tupI g)] = .ok (resD none)) (hr : d_room [.fz (webP n ps), .fz (tupI ms)] = .ok (.list (K.map tupI))) : d_told [.fz (webP n ps), .fz (tupI ms), .fz (tupI g)] = .ok (.tuple [.str "room", .list (K.map tupI)]) := by
  refine wp_run [.fz (webP n ps), .fz (tupI ms), .fz (tupI g), .nil] ?_
  refine wp_seq (wp_set (d := .none) (by simp [hf, resD]) ?_)
  exact wp_ret (d := .tuple [.str "room", .list (K.map tupI)]) (by simp [isN, hr]) rfl
end
/-! ### rows of slides -/
def endM (ms : List Int) (r : Row) : List Int := r.foldl (fun x p => movedM x p.1 p.2) ms
def RowOk (ps : List (Int × Int)) : List Int → Row → Prop
  | _, [] => True
  | ms, p :: r => Slide ps ms p.1 p.2 ∧ RowOk ps (movedM ms p.1 p.2) r
theorem endM_snoc (ms : List Int) (r : Row) (p : Int × Int) : endM ms (r ++ [p]) = movedM (endM ms r) p.1 p.2 := by
  unfold endM
  rw [List.foldl_append]
  rfl
theorem rowOk_snoc {ps : List (Int × Int)} : ∀ {r : Row} {ms : List Int} {p : Int × Int}, RowOk ps ms (r ++ [p]) ↔ RowOk ps ms r ∧ Slide ps (endM ms r) p.1 p.2
  | [], ms, p => by simp [RowOk, endM]
  | q :: r, ms, p => by
    show Slide ps ms q.1 q.2 ∧ RowOk ps (movedM ms q.1 q.2) (r ++ [p]) ↔ (Slide ps ms q.1 q.2 ∧ RowOk ps (movedM ms q.1 q.2) r) ∧ Slide ps (endM (movedM ms q.1 q.2) r) p.1 p.2
    rw [rowOk_snoc, and_assoc]
theorem rowOk_app {ps : List (Int × Int)} : ∀ {r s : Row} {ms : List Int}, RowOk ps ms (r ++ s) → RowOk ps ms r
  | [], _, _, _ => trivial
  | _ :: _, _, _, h => ⟨h.1, rowOk_app h.2⟩
theorem row_rm {ps : List (Int × Int)} : ∀ {r : Row} {ms : List Int}, RowOk ps ms r → Rm ps ms (endM ms r)
  | [], _, _ => .refl
  | p :: r, ms, h => Rm.trans (.step .refl h.1) (row_rm h.2)
theorem eqv_pr (p q : Int × Int) : PyData.eqv (prD p) (prD q) = decide (p = q) := by
  have := eqv_tupI (pl p) (pl q)
  refine Eq.trans this ?_
  rw [decide_eq_decide]
  unfold pl
  constructor
  · intro e
    simp at e
    exact Prod.ext e.1 e.2
  · rintro rfl
    rfl
theorem inAny_pr (p : Int × Int) (l : Row) : inAny (prD p) (l.map prD) = decide (p ∈ l) := by
  unfold inAny
  rw [List.any_map]
  induction l with
  | nil => rfl
  | cons m ms ih =>
    rw [List.any_cons, ih]
    show (PyData.eqv (prD m) (prD p) || _) = _
    rw [eqv_pr]
    by_cases h : m = p
    · subst h; simp
    · simp [h, Ne.symm h]
theorem cIn_pr (p : Int × Int) (l : Row) : cIn (prD p) (.fz (.list (l.map prD))) = .ok (decide (p ∈ l)) := by
  unfold cIn
  simp only []
  rw [if_pos ⟨sh_of (sh_pr p), sh_of (sh_row l)⟩]
  congr 1
  exact inAny_pr p l
section
variable {n m : Int} {ps : List (Int × Int)} (h : GoodWeb n m ps) (hm : m ≤ 12) {ms : List Int} (hg : GoodMarks n ps ms) (hl : ms.length ≤ 4)
include h hm hg hl
end
/-! ### the law's questions -/
/-! MsK10: drawn rows; refusals. -/
theorem marks_bad_at {n : Int} {ps : List (Int × Int)} {ms : List Int} {s : Int} (hs : s ∈ ms) (h : ¬ (0 ≤ s ∧ s < n)) : isMarks n ps ms = false := Bool.eq_false_iff.mpr fun q => h ((good_of q).2.1 s hs)
theorem marks_bad_up {n : Int} {ps : List (Int × Int)} {ms : List Int} (h : ms ≠ upI ms) : isMarks n ps ms = false := by
  unfold isMarks
  rw [decide_eq_false h]
  rfl
theorem eqv_row (r s : Row) : PyData.eqv (rowD r) (rowD s) = decide (r = s) := by
  unfold rowD
  rw [PyData.eqv]
  exact eqv_all eqv_pr r s
theorem cNe_row (r s : Row) : cNe (rowD r) (rowD s) = .ok (!decide (r = s)) := ne_of (sh_row r) (sh_row s) (eqv_row r s)
/-! ### refusals -/
theorem look_two_er1 {w x g : PyData} {k : XK} (hx : d_look_marks [.fz w, .fz x] = .er k) : d_look_two [.fz w, .fz x, .fz g] = .er k := by
  refine wp_run [.fz w, .fz x, .fz g] ?_
  exact wp_seq (wp_expr_er (k := k) (by simp [hx]) rfl)
theorem fewest_er {w x g : PyData} {k : XK} (hx : d_look_two [.fz w, .fz x, .fz g] = .er k) : d_fewest [.fz w, .fz x, .fz g] = .er k := by
  refine wp_run [.fz w, .fz x, .fz g, .nil, .nil, .nil, .nil, .nil, .nil, .nil, .nil, .nil] ?_
  exact wp_seq (wp_expr_er (k := k) (by simp [hx]) rfl)
theorem sh_strs (l : List Str) (h : ∀ s ∈ l, (PyData.str s).canLay0 = true) : shN 2 (.list (l.map .str)) := sh_list fun d hd => by
  obtain ⟨s, hs, rfl⟩ := List.mem_map.mp hd
  exact sh_str s (h s hs)
theorem sh_res (r : Option Row) : shN 3 (resD r) := match r with
  | none => sh_mono sh_none (by decide)
  | some r => sh_row r
end MS

/-! MsB5: slide and back. -/
namespace MS
open PySem L2 PyProof.Rows

theorem ite_no {p q : Prop} (h : q) : (if false = true then p else q) := by rw [if_neg Bool.false_ne_true]; exact h
theorem ite_yes {p q : Prop} (h : p) : (if true = true then p else q) := by rw [if_pos rfl]; exact h
theorem ExtM.trans {a l C dx : Addr} {fs : List (Str × V)} {xs : List V} {B H B1 H1 B2 H2 : Hp} (x : ExtM a l B H B1 H1) (y : ExtM a l B1 H1 B2 H2) (ha : H1 a = some (.ins C dx fs)) (hl : H1 l = some (.lst xs)) : ExtM a l B H B2 H2 := by
  refine ⟨x.b.trans y.b, fun c o n1 n2 e => y.h c o n1 n2 (x.h c o n1 n2 e), y.s, fun c o e => ?_⟩
  rcases y.n c o e with q | q | ⟨q, zs, rfl⟩
  · exact x.n c o q
  · cases e2 : H c with
    | none => exact .inr (.inl rfl)
    | some u =>
      have na : c ≠ a := by rintro rfl; rw [ha] at q; cases q
      have nl : c ≠ l := by rintro rfl; rw [hl] at q; cases q
      rw [x.h c u na nl e2] at q
      cases q
  · cases e2 : H c with
    | none => exact .inr (.inl rfl)
    | some u =>
      have na : c ≠ a := by rintro rfl; rw [ha] at q; cases q
      have nl : c ≠ l := by rintro rfl; rw [hl] at q; cases q
      have := x.h c u na nl e2
      rw [q] at this
      exact .inr (.inr ⟨by rw [← Option.some.inj this], zs, rfl⟩)
theorem ExtM.put {a l c : Addr} {B H : Hp} {o : HO} (s : Same B H) (n : B c = none) (hc : c = a ∨ c = l) : ExtM a l B H B (upd H c o) :=
  ⟨Same.refl _, fun d u n1 n2 e => by
    have : d ≠ c := by rcases hc with rfl | rfl <;> assumption
    rw [upd_ne this]
    exact e, fun d u e => by
    have : d ≠ c := by rintro rfl; rw [n] at e; cases e
    rw [upd_ne this]
    exact s _ _ e, fun d u e => .inl e⟩
section
variable {Cb : Addr} {B H : Hp} {a l : Addr} {w bs hr : PyData} {old : List PyData}
theorem BdAt.ne (h : BdAt Cb B H a l w bs hr old) : a ≠ l := by
  obtain ⟨⟨dx, vw, vb, vh, h1, _⟩, ⟨xs, g1, _⟩, _, _⟩ := h
  rintro rfl
  rw [h1] at g1
  cases g1
theorem BdAt.putL (h : BdAt Cb B H a l w bs hr old) {xs : List V} {new : List PyData} (t : DtAll B xs new) : BdAt Cb B (upd H l (.lst xs)) a l w bs hr new := by
  have ne := h.ne
  obtain ⟨⟨dx, vw, vb, vh, h1, h2, h3, h4⟩, _, na, nl⟩ := h
  exact ⟨⟨dx, vw, vb, vh, by rw [upd_ne ne]; exact h1, h2, h3, h4⟩, ⟨xs, upd_same, t⟩, na, nl⟩
theorem bf_len (vw vb vh : V) (l : Addr) : (bf vw vb vh l).length < 1000 := by show 4 < 1000; decide
end
theorem cIn_owp (p : Int × Int) (l : Row) : cIn (prD p) (.ow (l.map prD)) = .ok (decide (p ∈ l)) := by
  unfold cIn
  simp only []
  rw [if_pos ⟨sh_of (sh_pr p), sh_of (sh_row l)⟩]
  congr 1
  exact inAny_pr p l
theorem scSlide : FnScope ["self", "one", "other"] ["self", "one", "other"] (defScope (sB 3)) := ⟨rfl, rfl, rfl, by decide +kernel, rfl, by decide +kernel, by decide +kernel⟩
theorem scBack : FnScope ["self", "one", "other"] ["self"] (defScope (sB 4)) := ⟨rfl, rfl, rfl, by decide +kernel, rfl, by decide +kernel, by decide +kernel⟩
def spSlide (Cb : Addr) (ec : MS.XK → Addr) : Sp := fun vs H Q E => ∃ (a l : Addr) (x y : Int) (B : Hp) (w bs hr : PyData) (old sl : Row), vs = [.ref a, .int x, .int y] ∧ Same B H ∧ BdAt Cb B H a l w bs hr (old.map prD) ∧ SlRun w bs hr (sl.map prD) ∧ old.length < 1000 ∧
  ((x, y) ∈ sl → ∃ hr', d_moved [.fz hr, .fz (.int x), .fz (.int y)] = .ok hr' ∧ ∀ B' H', ExtM a l B H B' H' → BdAt Cb B' H' a l w bs hr' ((old ++ [(x, y)]).map prD) → Q .non H') ∧
  ((x, y) ∉ sl → ∀ B' H', Ext B H B' H' → E (.ref (ec .slide)) none H')
def spBack (Cb : Addr) : Sp := fun vs H Q E => ∃ (a l : Addr) (B : Hp) (w bs hr : PyData) (old : Row), vs = [.ref a] ∧ Same B H ∧ BdAt Cb B H a l w bs hr (old.map prD) ∧
  (old = [] → ∀ B' H', Ext B H B' H' → Q (.bl false) H') ∧
  (∀ r x y, old = r ++ [(x, y)] → ∃ hr', d_moved [.fz hr, .fz (.int y), .fz (.int x)] = .ok hr' ∧ ∀ B' H', ExtM a l B H B' H' → BdAt Cb B' H' a l w bs hr' (r.map prD) → Q (.bl true) H')
section
variable {P : Program} {w : World} {K : PySem.W.Frag} {mg : Str → Option Value} {base : Heap} {ec : MS.XK → Addr} {CS Cb : Addr}
theorem ok_slide {f : Addr} {fd : FuncData} (F : L2.Fun K "slide" "Board.slide" (sB 3) f fd) (T : Bcl K mg Cb) (Z : Tx K mg ec CS) (MS' : MtS P w K mg base Cb "slides" ["self"] 4 (spSlides Cb)) (FM : Fn P w K mg base ec "moved" ["marks", "one", "other"] 1 d_moved) : FnOk P w K mg base (L2.CX P w) 5 f fd ["self", "one", "other"] (spSlide Cb ec) := by
  refine F.okX scSlide (fun vs H Q E h => ?_) (fun cdv A outer s H vs Q E hr h => ?_)
  · obtain ⟨a, l, x, y, B, w, bs, hr, old, sl, rfl, _⟩ := h
    rfl
  · obtain ⟨a, l, x, y, B, w', bs, hr', old, sl, rfl, sm, Bd, run, hol, hyes, hno⟩ := h
    have tk : Takes (cxOf (L2.CX P w) P w K mg base ["self", "one", "other"] "Board.slide" (defScope (sB 3)) f cdv A outer s H E) (fun cls d _ H' => E cls d H') := takes_of rfl rfl rfl rfl
    refine ⟨_, pss_cons (ps_if (pt_cmpR (or_nin (C := { G := fun _ => none, B0 := fun _ => none, W := fun _ _ _ _ => False, ec := ec }) hr) (xe_tup (C := { G := H, B0 := B, W := fun cls d _ H' => E cls d H', ec := ec }) (xa_cons (xe_var 1) (xa_cons (xe_var 2) xa_nil))) (pe_mtS0 MS' T.cl hr tk (pv 0)) rfl)
        (xss_one (C := { G := H, B0 := B, W := fun cls d _ H' => E cls d H', ec := ec }) (xs_raise (Z.k.e .slide))) pss_nil)
      (pss_cons (ps_expr (pe_bm PySem.F.plainAttrs_list PySem.F.slot_list_append PySem.F.type_list_append mt_append (pe_fld (pv 0) rfl) (pa_cons (xe_tup (C := { G := H, B0 := B, W := fun cls d _ H' => E cls d H', ec := ec }) (xa_cons (xe_var 1) (xa_cons (xe_var 2) xa_nil))) pa_nil)) rfl)
      (pss_one (ps_fld (pv 0) (pe_fnS (fnS_of FM) (hr.mono (by decide)) tk (pa_cons (pe_fld (pv 0) rfl) (pa_cons (pv 1) (pa_cons (pv 2) pa_nil)))) rfl))), ?_⟩
    have S0 := stt_start (C := { G := H, B0 := B, W := fun cls d _ H' => E cls d H', ec := ec }) (K := K) (N := ["self", "one", "other"]) (vs := [.ref a, .int x, .int y]) (ss := [.bx a, .fz (.int x), .fz (.int y)]) sm (.cons rfl (.cons (.int x) (.cons (.int y) .nil))) (by show 3 ≤ 3; decide)
    refine ⟨_, B, S0, ?_⟩
    intro v1 B1 H1 x1 t1
    obtain ⟨⟨dx, vw, vb, vh, h1, h2, h3, h4⟩, ⟨xs, g1, g2⟩, na, nl⟩ := id Bd
    refine ⟨.ref a, rfl, a, dx, _, rfl, x1.h _ _ h1, bf_no vw vb vh l (by decide +kernel) (by decide +kernel) (by decide +kernel) (by decide +kernel), ?_⟩
    refine ⟨a, l, B1, w', bs, hr', old.map prD, sl.map prD, rfl, x1.s, Bd.on x1, run, fun p ys B2 H2 x2 p1 p2 p3 p4 => ?_⟩
    have Bd2 := (Bd.on x1).on x2
    have S2 := (S0.on x1).on x2
    refine ⟨B2, prD (x, y), .ow (sl.map prD), !decide ((x, y) ∈ sl), x2.s, t1.on x2.b, ⟨p, ys, rfl, p3, p2, rfl, p4⟩, ?_, ?_⟩
    · unfold cNin
      rw [cIn_owp]
      rfl
    by_cases q : (x, y) ∈ sl
    · obtain ⟨hr2, m1, post⟩ := hyes q
      rw [decide_eq_true q]
      refine ⟨false, rfl, ite_no ?_⟩
      obtain ⟨⟨dx2, vw2, vb2, vh2, i1, i2, i3, i4⟩, ⟨ys2, j1, j2⟩, na2, nl2⟩ := id Bd2
      refine ⟨.ref a, rfl, a, Cb, dx2, _, .ref l, rfl, i1, T.cl, T.nO, bf_old vw2 vb2 vh2 l, .inl ⟨rfl, ys2, SqL.of j1⟩, ?_⟩
      refine ⟨_, B2, S2, ?_⟩
      intro v3 B3 H3 x3 t3
      have Bd3 := Bd2.on x3
      have S3 := S2.on x3
      have l3 := x3.h _ _ j1
      refine ⟨l, ys2, v3, rfl, rfl, l3, ?_, ?_⟩
      · rw [j2.len, List.length_map]
        exact lim_lt (by show old.length ≤ 1000000; omega)
      have Bd4 := Bd3.putL (xs := ys2 ++ [v3]) (new := (old ++ [(x, y)]).map prD) (by rw [List.map_append]; exact (j2.on x3.b).app (.one t3))
      have ne := Bd3.ne
      have e4 : ExtM a l B H B3 (upd H3 l (.lst (ys2 ++ [v3]))) := (ExtM.of ((x1.trans x2).trans x3)).trans (ExtM.put x3.s Bd3.nl (.inr rfl)) (x3.h _ _ i1) l3
      refine ⟨.ref a, rfl, a, Cb, dx2, _, vh2, rfl, (by rw [upd_ne ne]; exact x3.h _ _ i1), T.cl, T.nH, bf_here vw2 vb2 vh2 l, .int x, rfl, .int y, rfl, ?_⟩
      refine ⟨rfl, B3, [.fz hr', .fz (.int x), .fz (.int y)], e4.s, .cons (i4.on x3.b) (.cons (.int x) (.cons (.int y) .nil)), ?_⟩
      rw [m1]
      intro v5 B5 H5 x5 t5
      have Bd5 := Bd4.on x5
      have a5 : H5 a = some (.ins Cb dx2 (bf vw2 vb2 vh2 l)) := x5.h _ _ (by rw [upd_ne ne]; exact x3.h _ _ i1)
      have l5 : H5 l = some (.lst (ys2 ++ [v3])) := x5.h _ _ upd_same
      refine ⟨.ref a, rfl, a, Cb, dx2, _, rfl, a5, T.cl, T.nH, bf_len vw2 vb2 vh2 l, ?_⟩
      rw [bf_put]
      have e5 : ExtM a l B H B5 H5 := e4.trans (ExtM.of x5) (by rw [upd_ne ne]; exact x3.h _ _ i1) upd_same
      refine post B5 _ (e5.trans (ExtM.put x5.s Bd5.na (.inl rfl)) a5 l5) ?_
      obtain ⟨_, ⟨zs, z1, z2⟩, na5, nl5⟩ := Bd5
      exact ⟨⟨dx2, vw2, vb2, v5, upd_same, (i2.on x3.b).on x5.b, (i3.on x3.b).on x5.b, t5⟩, ⟨zs, by rw [upd_ne ne.symm]; exact z1, z2⟩, na5, nl5⟩
    · rw [decide_eq_false q]
      refine ⟨true, rfl, ite_yes ?_⟩
      exact ⟨_, B2, S2, fun σ' B' H' s' S' => hno q B' H' S'.x⟩
theorem ok_back {f : Addr} {fd : FuncData} (F : L2.Fun K "back" "Board.back" (sB 4) f fd) (T : Bcl K mg Cb) (FM : Fn P w K mg base ec "moved" ["marks", "one", "other"] 1 d_moved) : FnOk P w K mg base (L2.CX P w) 2 f fd ["self"] (spBack Cb) := by
  have nd := scBack.nd
  refine F.okX scBack (fun vs H Q E h => ?_) (fun cdv A outer s H vs Q E hr h => ?_)
  · obtain ⟨a, l, B, w, bs, hr, old, rfl, _⟩ := h
    rfl
  · obtain ⟨a, l, B, w', bs, hr', old, rfl, sm, Bd, hnil, hcons⟩ := h
    have tk : Takes (cxOf (L2.CX P w) P w K mg base ["self", "one", "other"] "Board.back" (defScope (sB 4)) f cdv A outer s H E) (fun cls d _ H' => E cls d H') := takes_of rfl rfl rfl rfl
    refine ⟨_, pss_cons (ps_if (pt_not (pt_truth (pe_fld (pv 0) rfl) (by intro _; rfl))) (pss_one (ps_ret pe_bl)) pss_nil)
      (pss_cons (ps_asg (pe_bm0 PySem.F.plainAttrs_list PySem.F.slot_list_pop PySem.F.type_list_pop mt_pop (pe_fld (pv 0) rfl) (by rfl) (by rfl)) (xg_t rfl (xgs_cons 1 nd (xgs_cons 2 nd xgs_nil))).pg rfl rfl rfl)
      (pss_cons (ps_fld (pv 0) (pe_fnS (fnS_of FM) (hr.mono (by decide)) tk (pa_cons (pe_fld (pv 0) rfl) (pa_cons (pv 2) (pa_cons (pv 1) pa_nil)))) rfl)
      (pss_one (ps_ret pe_bl)))), ?_⟩
    have S0 := stt_start (C := { G := fun c => if c = a ∨ c = l then none else H c, B0 := B, W := fun cls d _ H' => E cls d H', ec := ec }) (K := K) (N := ["self", "one", "other"]) (vs := [.ref a]) (ss := [.bx a]) (by
      intro c o e
      have eB : B c = some o := e
      show (if c = a ∨ c = l then none else H c) = some o
      rw [if_neg]
      · exact sm _ _ e
      · rintro (rfl | rfl)
        · rw [Bd.na] at eB; cases eB
        · rw [Bd.nl] at eB; cases eB) (.cons rfl .nil) (by show 1 ≤ 3; decide)
    obtain ⟨⟨dx, vw, vb, vh, h1, h2, h3, h4⟩, ⟨xs, g1, g2⟩, na, nl⟩ := id Bd
    have hxl : xs.length = old.length := by rw [g2.len, List.length_map]
    refine ⟨.ref a, rfl, a, Cb, dx, _, .ref l, rfl, h1, T.cl, T.nO, bf_old vw vb vh l, !xs.isEmpty, .inl ⟨xs, SqL.of g1, rfl⟩, ?_⟩
    rcases List.eq_nil_or_concat old with rfl | ⟨r, p, rfl⟩
    · have : xs = [] := List.eq_nil_of_length_eq_zero hxl
      subst this
      exact hnil rfl B H (Ext.refl sm)
    · rw [List.concat_eq_append] at *
      obtain ⟨x, y⟩ := p
      obtain ⟨hr2, m1, post⟩ := hcons r x y rfl
      have hne : xs.isEmpty = false := by
        cases xs with
        | nil => simp at hxl
        | cons _ _ => rfl
      rw [hne]
      refine ite_no ?_
      have hgl : ((r ++ [(x, y)]).map prD).getLast? = some (prD (x, y)) := by simp
      obtain ⟨v, hv, tv⟩ := getLast_D g2 hgl
      refine ⟨.ref a, rfl, a, Cb, dx, _, .ref l, rfl, h1, T.cl, T.nO, bf_old vw vb vh l, .inl ⟨rfl, xs, SqL.of g1⟩, l, xs, v, rfl, rfl, g1, hv, ?_⟩
      have hdl : ((r ++ [(x, y)]).map prD).dropLast = r.map prD := by rw [List.map_append]; exact List.dropLast_concat
      have Bd1 := Bd.putL (xs := xs.dropLast) (new := r.map prD) (by rw [← hdl]; exact g2.init)
      have ne := Bd.ne
      have e1 : ExtM a l B H B (upd H l (.lst xs.dropLast)) := ExtM.put sm nl (.inr rfl)
      have S1 : Stt K { G := fun c => if c = a ∨ c = l then none else H c, B0 := B, W := fun cls d _ H' => E cls d H', ec := ec } B (upd H l (.lst xs.dropLast)) (L2.start ["self", "one", "other"] [.ref a]) [.bx a, .nil, .nil] := by
        refine S0.move (fun i s e => ?_) (Same.refl _) ⟨Same.refl _, fun c o e => ?_, e1.s, fun c o e => .inl e⟩
        · match i, e with
          | 0, e => cases (Option.some.inj e); rfl
          | 1, e => cases (Option.some.inj e); rfl
          | 2, e => cases (Option.some.inj e); rfl
          | i + 3, e => cases e
        · have e' : (if c = a ∨ c = l then none else H c) = some o := e
          by_cases q : c = a ∨ c = l
          · rw [if_pos q] at e'; cases e'
          · rw [if_neg q] at e'
            rw [upd_ne (fun z => q (.inr z))]
            exact e'
      refine (tok_t (toks_cons 1 (toks_cons 2 toks_nil)) : TgOk K (gT [1, 2]) _ [1, 2]).go S1 tv (ρ' := [.bx a, .fz (.int x), .fz (.int y)]) rfl fun σ2 S2 _ hj => ?_
      have s0 : σ2[0]? = some (some (.ref a)) := (hj 0 (by decide)).trans rfl
      obtain ⟨u1, k1, k2⟩ := S2.r.at' 1 (.fz (.int x)) rfl (by intro q; cases q)
      obtain ⟨u2, k3, k4⟩ := S2.r.at' 2 (.fz (.int y)) rfl (by intro q; cases q)
      cases (show Dt B u1 (.int x) from k2)
      cases (show Dt B u2 (.int y) from k4)
      have a1 : upd H l (.lst xs.dropLast) a = some (.ins Cb dx (bf vw vb vh l)) := by rw [upd_ne ne]; exact h1
      refine ⟨.ref a, s0, a, Cb, dx, _, vh, rfl, a1, T.cl, T.nH, bf_here vw vb vh l, .int y, k3, .int x, k1, ?_⟩
      refine ⟨rfl, B, [.fz hr', .fz (.int y), .fz (.int x)], e1.s, .cons h4 (.cons (.int y) (.cons (.int x) .nil)), ?_⟩
      rw [m1]
      intro v5 B5 H5 x5 t5
      have Bd5 := Bd1.on x5
      have a5 := x5.h _ _ a1
      have l5 : H5 l = some (.lst xs.dropLast) := x5.h _ _ upd_same
      refine ⟨.ref a, s0, a, Cb, dx, _, rfl, a5, T.cl, T.nH, bf_len vw vb vh l, ?_⟩
      rw [bf_put]
      have e5 : ExtM a l B H B5 H5 := e1.trans (ExtM.of x5) a1 upd_same
      refine post B5 _ (e5.trans (ExtM.put x5.s Bd5.na (.inl rfl)) a5 l5) ?_
      obtain ⟨_, ⟨zs, z1, z2⟩, na5, nl5⟩ := Bd5
      exact ⟨⟨dx, vw, vb, v5, upd_same, h2.on x5.b, h3.on x5.b, t5⟩, ⟨zs, by rw [upd_ne ne.symm]; exact z1, z2⟩, na5, nl5⟩
end
end MS

/-! MsB6: a board is made. -/
namespace MS
open PySem L2 PyProof.Rows

theorem scInit : FnScope ["self", "web", "marks"] ["self", "web", "marks"] (defScope (sB 0)) := ⟨rfl, rfl, rfl, by decide +kernel, rfl, by decide +kernel, by decide +kernel⟩
abbrev webD (n : Int) (ps : Row) : PyData := .tuple [.int n, .list (ps.map prD)]
def NearRun (n : Int) (ps : Row) (bs : PyData) : Prop := (0 ≤ n ∧ n ≤ 1000 ∧ ps.length ≤ 1000 ∧ ps.all (fun p => decide (0 ≤ p.1 ∧ p.1 < n ∧ 0 ≤ p.2 ∧ p.2 < n)) = true) ∧ (dLst (lComp (iSeq (bVar 1)) (gN 5) tYes (dLst (lSorted (bVar 5))) [5])) [.nil, .fz (.list ((nearGo ps (List.replicate n.toNat [])).map lstI')), .nil, .nil, .nil, .nil] = .ok bs
def spInit (Cb : Addr) (ec : MS.XK → Addr) : Sp := fun vs H Q E =>
  (∃ (p : Addr) (B : Hp) (vw vm : V) (w m : PyData) (k : MS.XK), vs = [.ref p, vw, vm] ∧ Same B H ∧ Dt B vw w ∧ Dt B vm m ∧ d_look_marks [.fz w, .fz m] = .er k ∧ ∀ B' H', Ext B H B' H' → E (.ref (ec k)) none H') ∨
  (∃ (p dx t q : Addr) (us : List V) (B0 B : Hp) (n : Int) (ps : Row) (vm : V) (m bs : PyData), vs = [.ref p, .ref t, vm] ∧ H p = some (.ins Cb dx []) ∧ B p = none ∧ Same B H ∧ Same B0 B ∧ B t = some (.tup [.int n, .ref q]) ∧ B q = some (.lst us) ∧ DtAll B0 us (ps.map prD) ∧ Dt B0 vm m ∧
    d_look_marks [.fz (webD n ps), .fz m] = .ok .none ∧ NearRun n ps bs ∧
    ∀ B' H' l, (∀ c o, c ≠ p → H c = some o → H' c = some o) → Same B0 B' → (∀ c o, B' c = some o → B0 c = some o ∨ H c = none ∨ ∃ xs, o = .tup xs) → Same B' H' → H l = none → BdAt Cb B' H' p l (webD n ps) bs m [] → Q .non H')
theorem bf_full (vw vb vh : V) (l : Addr) : putF "old" (.ref l) (putF "here" vh (putF "beside" vb (putF "web" vw []))) = bf vw vb vh l := by
  have h1 : ¬ ("web" : Str) = "beside" := by decide +kernel
  have h2 : ¬ ("web" : Str) = "here" := by decide +kernel
  have h3 : ¬ ("beside" : Str) = "here" := by decide +kernel
  have h4 : ¬ ("web" : Str) = "old" := by decide +kernel
  have h5 : ¬ ("beside" : Str) = "old" := by decide +kernel
  have h6 : ¬ ("here" : Str) = "old" := by decide +kernel
  have e1 : putF "web" vw [] = ([("web", vw)] : List (Str × V)) := rfl
  have e2 : putF "beside" vb [(("web" : Str), vw)] = ([("web", vw), ("beside", vb)] : List (Str × V)) := by
    show (if ("web" : Str) = "beside" then _ else (("web" : Str), vw) :: [(("beside" : Str), vb)]) = _
    rw [if_neg h1]
  have e3 : putF "here" vh [(("web" : Str), vw), ("beside", vb)] = ([("web", vw), ("beside", vb), ("here", vh)] : List (Str × V)) := by
    show (if ("web" : Str) = "here" then _ else (("web" : Str), vw) :: (if ("beside" : Str) = "here" then _ else (("beside" : Str), vb) :: [(("here" : Str), vh)])) = _
    rw [if_neg h2, if_neg h3]
  have e4 : putF "old" (.ref l) [(("web" : Str), vw), ("beside", vb), ("here", vh)] = bf vw vb vh l := by
    show (if ("web" : Str) = "old" then _ else (("web" : Str), vw) :: (if ("beside" : Str) = "old" then _ else (("beside" : Str), vb) :: (if ("here" : Str) = "old" then _ else (("here" : Str), vh) :: [(("old" : Str), V.ref l)]))) = _
    rw [if_neg h4, if_neg h5, if_neg h6]
    rfl
  rw [e1, e2, e3, e4]
theorem len1 (vw : V) : (putF "web" vw []).length < 1000 := by show 1 < 1000; decide
theorem len2 (vw vb : V) : (putF "beside" vb (putF "web" vw [])).length < 1000 := by
  have h1 : ¬ ("web" : Str) = "beside" := by decide +kernel
  show (if ("web" : Str) = "beside" then _ else (("web" : Str), vw) :: [(("beside" : Str), vb)] : List (Str × V)).length < 1000
  rw [if_neg h1]
  show 2 < 1000
  decide
theorem len3 (vw vb vh : V) : (putF "here" vh (putF "beside" vb (putF "web" vw []))).length < 1000 := by
  have h1 : ¬ ("web" : Str) = "beside" := by decide +kernel
  have h2 : ¬ ("web" : Str) = "here" := by decide +kernel
  have h3 : ¬ ("beside" : Str) = "here" := by decide +kernel
  have e2 : putF "beside" vb (putF "web" vw []) = ([("web", vw), ("beside", vb)] : List (Str × V)) := by
    show (if ("web" : Str) = "beside" then _ else (("web" : Str), vw) :: [(("beside" : Str), vb)]) = _
    rw [if_neg h1]
  have e3 : putF "here" vh [(("web" : Str), vw), ("beside", vb)] = ([("web", vw), ("beside", vb), ("here", vh)] : List (Str × V)) := by
    show (if ("web" : Str) = "here" then _ else (("web" : Str), vw) :: (if ("beside" : Str) = "here" then _ else (("beside" : Str), vb) :: [(("here" : Str), vh)])) = _
    rw [if_neg h2, if_neg h3]
  rw [e2, e3]
  show 3 < 1000
  decide
section
variable {P : Program} {w : World} {K : PySem.W.Frag} {mg : Str → Option Value} {base : Heap} {ec : MS.XK → Addr} {CS Cb : Addr}
theorem ok_init {f : Addr} {fd : FuncData} (F : L2.Fun K "__init__" "Board.__init__" (sB 0) f fd) (T : Bcl K mg Cb) (Tx' : Txs mg) (FL : Fn P w K mg base ec "look_marks" ["web", "marks"] 2 d_look_marks) (FN : FnS P w K mg base "near" ["web"] 2 (spNear K ec)) : FnOk P w K mg base (L2.CX P w) 3 f fd ["self", "web", "marks"] (spInit Cb ec) := by
  refine F.okX scInit (fun vs H Q E h => ?_) (fun cdv A outer s H vs Q E hr h => ?_)
  · rcases h with ⟨p, B, vw, vm, w, m, k, rfl, _⟩ | ⟨p, dx, t, q, us, B0, B, n, ps, vm, m, bs, rfl, _⟩
    · rfl
    · rfl
  have tk : Takes (cxOf (L2.CX P w) P w K mg base ["self", "web", "marks"] "Board.__init__" (defScope (sB 0)) f cdv A outer s H E) (fun cls d _ H' => E cls d H') := takes_of rfl rfl rfl rfl
  refine ⟨_, pss_cons (ps_expr (pe_fnS (fnS_of FL) hr tk (pa_cons (pv 1) (pa_cons (pv 2) pa_nil))) rfl)
    (pss_cons (ps_fld (pv 0) (pe_tup (pa_cons (pe_ix ix_seq (pv 1) pe_int (by intro _ _; rfl)) (pa_cons (pe_callTy call_list_of (by rfl) Tx'.list (by decide +kernel) (pa_cons (pe_ix ix_seq (pv 1) pe_int (by intro _ _; rfl)) pa_nil)) pa_nil))) rfl)
    (pss_cons (ps_fld (pv 0) (pe_fnS FN hr tk (pa_cons (pv 1) pa_nil)) rfl)
    (pss_cons (ps_fld (pv 0) (pv 2) rfl)
    (pss_one (ps_fld (pv 0) (pe_lst pa_nil) rfl))))), ?_⟩
  rcases h with ⟨p, B, vw, vm, w', m, k, rfl, sm, t1, t2, e, post⟩ | ⟨p, dx, t, q, us, B0, B, n, ps, vm, m, bs, rfl, hp, nB, sm, s0, bt, bq, hus, tm, hlook, ⟨hnc, hnd⟩, post⟩
  · refine ⟨vw, rfl, vm, rfl, rfl, B, [.fz w', .fz m], sm, .cons t1 (.cons t2 .nil), ?_⟩
    rw [e]
    exact post
  · have tw : Dt B (.ref t) (webD n ps) := .tup bt (.cons (.int n) (.cons (.lst bq (hus.on s0)) .nil))
    refine ⟨.ref t, rfl, vm, rfl, rfl, B, [.fz (webD n ps), .fz m], sm, .cons tw (.cons (tm.on s0) .nil), ?_⟩
    rw [hlook]
    intro v1 B1 H1 x1 t1
    have p1 : H1 p = some (.ins Cb dx []) := x1.h _ _ hp
    have nB1 : B1 p = none := none_ext x1 hp nB
    have ht1 : H1 t = some (.tup [.int n, .ref q]) := x1.s _ _ (x1.b _ _ bt)
    have hq1 : H1 q = some (.lst us) := x1.s _ _ (x1.b _ _ bq)
    refine ⟨.ref t, rfl, .inr (.inl ⟨t, _, 0, .int n, rfl, rfl, SqT.of ht1, rfl, ?_⟩)⟩
    refine ⟨.ref t, rfl, .inr (.inl ⟨t, _, 1, .ref q, rfl, rfl, SqT.of ht1, rfl, ?_⟩)⟩
    refine ⟨q, us, rfl, .inl (SqL.of hq1), fun l2 hl2 => ?_⟩
    refine ⟨by show 2 ≤ sizeLine; decide, fun t2 ht2 => ?_⟩
    have n2p : l2 ≠ p := (ne_of_none p1 hl2).symm
    have ht2' : H1 t2 = none := by
      cases e : H1 t2 with
      | none => rfl
      | some u =>
        by_cases z : t2 = l2
        · subst z; rw [hl2] at e; cases e
        · rw [upd_ne z, e] at ht2; cases ht2
    have n2l : t2 ≠ l2 := fun z => by subst z; rw [upd_same] at ht2; cases ht2
    have n2p' : t2 ≠ p := (ne_of_none p1 ht2').symm
    refine ⟨.ref p, rfl, p, Cb, dx, [], rfl, by rw [upd_ne n2p'.symm, upd_ne n2p.symm]; exact p1, T.cl, T.nW, by show 0 < 1000; decide, ?_⟩
    generalize hH4 : upd (upd (upd H1 l2 (.lst us)) t2 (.tup [.int n, .ref l2])) p (.ins Cb dx (putF "web" (.ref t2) [])) = H4
    have h4 : ∀ c o, c ≠ p → H1 c = some o → H4 c = some o := fun c o nc e => by
      rw [← hH4, upd_ne nc, upd_ne (ne_of_none e ht2'), upd_ne (ne_of_none e hl2)]
      exact e
    have h4p : H4 p = some (.ins Cb dx (putF "web" (.ref t2) [])) := by rw [← hH4, upd_same]
    have h4t : H4 t2 = some (.tup [.int n, .ref l2]) := by rw [← hH4, upd_ne n2p', upd_same]
    have h4l : H4 l2 = some (.lst us) := by rw [← hH4, upd_ne n2p, upd_ne n2l.symm, upd_same]
    have sm4 : Same B1 H4 := fun c o e => h4 c o (by rintro rfl; rw [nB1] at e; cases e) (x1.s _ _ e)
    -- self.beside
    refine ⟨.ref t, rfl, rfl, B1, n, ps, bs, sm4, .cons (tw.on x1.b) .nil, hnc, hnd, fun vb B3 H5 s45 s35 new3 tb => ?_⟩
    refine ⟨.ref p, rfl, p, Cb, dx, _, rfl, s45 _ _ h4p, T.cl, T.nB, len1 _, ?_⟩
    -- self.here
    refine ⟨vm, rfl, .ref p, rfl, p, Cb, dx, _, rfl, upd_same, T.cl, T.nH, len2 _ _, ?_⟩
    -- self.old
    refine ⟨Nat.zero_le _, fun l hl => ?_⟩
    generalize hH7 : upd (upd H5 p (.ins Cb dx (putF "beside" vb (putF "web" (.ref t2) [])))) p (.ins Cb dx (putF "here" vm (putF "beside" vb (putF "web" (.ref t2) [])))) = H7 at hl ⊢
    have h7 : ∀ c o, c ≠ p → H5 c = some o → H7 c = some o := fun c o nc e => by
      rw [← hH7, upd_ne nc, upd_ne nc]
      exact e
    have h7p : H7 p = some (.ins Cb dx (putF "here" vm (putF "beside" vb (putF "web" (.ref t2) [])))) := by rw [← hH7, upd_same]
    have nlp : l ≠ p := (ne_of_none h7p hl).symm
    refine ⟨.ref p, rfl, p, Cb, dx, _, rfl, by rw [upd_ne nlp.symm]; exact h7p, T.cl, T.nO, len3 _ _ _, ?_⟩
    rw [bf_full]
    have hN : ∀ c o, c ≠ p → H5 c = some o → upd (upd H7 l (.lst [])) p (.ins Cb dx (bf (.ref t2) vb vm l)) c = some o := fun c o nc e => by
      rw [upd_ne nc, upd_ne (ne_of_none (h7 c o nc e) hl)]
      exact h7 c o nc e
    have h15 : ∀ c o, c ≠ p → H1 c = some o → H5 c = some o := fun c o nc e => s45 _ _ (h4 c o nc e)
    have h05 : ∀ c o, B0 c = some o → c ≠ p ∧ H5 c = some o := fun c o e => by
      have e1 := s0 _ _ e
      have nc : c ≠ p := by rintro rfl; rw [nB] at e1; cases e1
      exact ⟨nc, h15 c o nc (x1.s _ _ (x1.b _ _ e1))⟩
    have b3p : ∀ o, B3 p = some o → False := fun o e => by
      have e5 := s35 _ _ e
      rw [s45 _ _ h4p] at e5
      cases e5
      rcases new3 p _ e with z | ⟨xs, z⟩
      · rw [h4p] at z; cases z
      · cases z
    let B' : Hp := fun c => if c = l2 then some (.lst us) else if c = t2 then some (.tup [.int n, .ref l2]) else match B0 c with
      | some o => some o
      | none => B3 c
    have eB : ∀ c, B' c = if c = l2 then some (.lst us) else if c = t2 then some (.tup [.int n, .ref l2]) else match B0 c with
      | some o => some o
      | none => B3 c := fun _ => rfl
    have fresh0 : ∀ c, H1 c = none → B0 c = none := fun c hc => by
      cases e : B0 c with
      | none => rfl
      | some o =>
        have := x1.s _ _ (x1.b _ _ (s0 _ _ e))
        rw [hc] at this
        cases this
    have sB0 : Same B0 B' := fun c o e => by
      have n1 : c ≠ l2 := by rintro rfl; rw [fresh0 _ hl2] at e; cases e
      have n2 : c ≠ t2 := by rintro rfl; rw [fresh0 _ ht2'] at e; cases e
      rw [eB, if_neg n1, if_neg n2, e]
    have h5l : H5 l2 = some (.lst us) := s45 _ _ h4l
    have h5t : H5 t2 = some (.tup [.int n, .ref l2]) := s45 _ _ h4t
    have in5 : ∀ c o, B' c = some o → c ≠ p ∧ H5 c = some o := fun c o e => by
      rw [eB] at e
      split at e
      · rename_i z
        subst z
        cases e
        exact ⟨n2p, h5l⟩
      · split at e
        · rename_i z
          subst z
          cases e
          exact ⟨n2p', h5t⟩
        · cases e0 : B0 c with
          | some u =>
            rw [e0] at e
            cases e
            exact h05 c _ e0
          | none =>
            rw [e0] at e
            exact ⟨by rintro rfl; exact b3p _ e, s35 _ _ e⟩
    have sB3 : Same B3 B' := fun c o e => by
      have e5 := s35 _ _ e
      rw [eB]
      by_cases z1 : c = l2
      · subst z1
        rw [if_pos rfl]
        rw [h5l] at e5
        exact e5
      · rw [if_neg z1]
        by_cases z2 : c = t2
        · subst z2
          rw [if_pos rfl]
          rw [h5t] at e5
          exact e5
        · rw [if_neg z2]
          cases e0 : B0 c with
          | some u =>
            have := (h05 c u e0).2
            rw [e5] at this
            exact this.symm
          | none => exact e
    have tW : Dt B' (.ref t2) (webD n ps) := .tup (by rw [eB, if_neg n2l, if_pos rfl]) (.cons (.int n) (.cons (.lst (by rw [eB, if_pos rfl]) (hus.on sB0)) .nil))
    have nBp : B' p = none := by
      cases e : B' p with
      | none => rfl
      | some o => exact absurd rfl (in5 p o e).1
    have hl5 : H5 l = none := by
      cases e : H5 l with
      | none => rfl
      | some o => rw [h7 l o nlp e] at hl; cases hl
    have nBl : B' l = none := by
      cases e : B' l with
      | none => rfl
      | some o =>
        have := (in5 l o e).2
        rw [hl5] at this
        cases this
    have hl0 : H l = none := by
      cases e : H l with
      | none => rfl
      | some o =>
        have := h15 l o nlp (x1.h _ _ e)
        rw [hl5] at this
        cases this
    refine post B' _ l (fun c o nc e => hN c o nc (h15 c o nc (x1.h _ _ e))) sB0 (fun c o e => ?_) (fun c o e => hN c o (in5 c o e).1 (in5 c o e).2) hl0 ⟨⟨dx, .ref t2, vb, vm, upd_same, tW, tb.on sB3, tm.on sB0⟩, ⟨[], by rw [upd_ne nlp, upd_same], .nil⟩, nBp, nBl⟩
    have e' := e
    rw [eB] at e
    split at e
    · rename_i z
      subst z
      refine .inr (.inl ?_)
      cases e2 : H c with
      | none => rfl
      | some u => rw [x1.h _ _ e2] at hl2; cases hl2
    · split at e
      · cases e
        exact .inr (.inr ⟨_, rfl⟩)
      · cases e0 : B0 c with
        | some u =>
          rw [e0] at e
          exact .inl e
        | none =>
          rw [e0] at e
          rcases new3 c o e with z | z
          · refine .inr (.inl ?_)
            cases e2 : H c with
            | none => rfl
            | some u =>
              have nc := (in5 c o e').1
              rw [h4 c u nc (x1.h _ _ e2)] at z
              cases z
          · exact .inr (.inr z)
end
end MS

/-! MsB7: the law's own helpers that handle a board. -/
namespace MS
open PySem L2 PyProof.Rows

theorem SlV.noC {K : PySem.W.Frag} {C C' : Cc} {B H B' H' : Hp} {v : V} {s : Sl} (h : SlV K C B H v s) (no : s.own = false) (sb : Same B B') (he : C'.ec = C.ec) : SlV K C' B' H' v s := by
  have h2 : SlV K C B' H' v s := h.noB no sb
  cases s with
  | ow ds => cases no
  | dc kvs => cases no
  | ex k =>
    obtain ⟨a, e1, e2⟩ := h2
    exact ⟨a, e1, by rw [he]; exact e2⟩
  | nil => exact h2
  | fz d => exact h2
  | sc ns => exact h2
  | bx a => exact h2
/-- a state of nothing of one's own is seen from where it stands -/
theorem Stt.rebase {K : PySem.W.Frag} {C : Cc} {B H B' H' : Hp} {σ : L2.St} {ρ : Env} {W : WX} (S : Stt K C B H σ ρ) (no : NoOwn ρ) (sb : Same B B') (sm : Same B' H') : Stt K { G := H', B0 := B', W := W, ec := C.ec } B' H' σ ρ :=
  ⟨Ext.refl sm, ⟨S.r.len, fun i s e n => let ⟨v, h1, h2⟩ := S.r.at' i s e n; ⟨v, h1, h2.noC (no i s e) sb rfl⟩, fun i j s t u hij e1 _ o1 => by rw [no i s e1] at o1; cases o1⟩⟩
def noOwn (ρ : Env) : Bool := ρ.all fun s => !s.own
theorem noOwn_of {ρ : Env} (h : noOwn ρ = true) : NoOwn ρ := fun i s e => by
  have := List.all_eq_true.mp h s (List.mem_of_getElem? e)
  cases q : s.own with
  | false => rfl
  | true => rw [q] at this; cases this
theorem keep_er {K : PySem.W.Frag} {mg : Str → Option Value} {ec : MS.XK → Addr} {CS : Addr} (Z : Tx K mg ec CS) {i j : Nat} {Wout : WX} {D : Ends} {σ : L2.St} {H : Hp} {k : MS.XK} (hij : i ≠ j) (hl : i < σ.length)
    (h : ∀ a, H a = none → D.nx ((σ.set i none).set j (some (.ref a))) (upd H a (exO a (ec k)))) : wKeep K (.ref CS) i (fun _ _ _ => tAsg (tVar i) (gName j)) Wout D (.ref (ec k)) none σ H :=
  ⟨true, Z.k.exk k, fun _ => ⟨rfl, ec k, rfl, fun a na => ⟨.ref a, List.getElem?_set_self hl, fun _ => by
    have e1 : (((σ.set i (some (V.ref a))).set j (some (V.ref a))).set i none) = (σ.set i none).set j (some (V.ref a)) := by
      rw [List.set_comm _ _ (Ne.symm hij), List.set_set]
    rw [e1]
    exact h a na⟩⟩, fun z => by cases z⟩
abbrev sSlid : Stmt := top 32
abbrev sTo : Stmt := top 33
abbrev sMade : Stmt := top 34
abbrev sSame : Stmt := top 35
theorem scSlid : FnScope ["_law_board", "_law_one", "_law_other", "_law_kept", "e"] ["_law_board", "_law_one", "_law_other"] (defScope sSlid) := ⟨rfl, rfl, rfl, by decide +kernel, rfl, by decide +kernel, by decide +kernel⟩
theorem scLTo : FnScope ["_law_board", "_law_goal", "_law_found", "_law_kept", "e"] ["_law_board", "_law_goal"] (defScope sTo) := ⟨rfl, rfl, rfl, by decide +kernel, rfl, by decide +kernel, by decide +kernel⟩
theorem scMade : FnScope ["_law_web_here", "_law_marks_here", "_law_kept", "e"] ["_law_web_here", "_law_marks_here"] (defScope sMade) := ⟨rfl, rfl, rfl, by decide +kernel, rfl, by decide +kernel, by decide +kernel⟩
theorem scSame : FnScope ["_law_board", "_law_web_here", "_law_marks_here", "_law_row"] ["_law_board", "_law_web_here", "_law_marks_here", "_law_row"] (defScope sSame) := ⟨rfl, rfl, rfl, by decide +kernel, rfl, by decide +kernel, by decide +kernel⟩
def spSlid (Cb : Addr) : Sp := fun vs H Q E => ∃ (a l : Addr) (x y : Int) (B : Hp) (w bs hr : PyData) (old sl : Row), vs = [.ref a, .int x, .int y] ∧ Same B H ∧ BdAt Cb B H a l w bs hr (old.map prD) ∧ SlRun w bs hr (sl.map prD) ∧ old.length < 1000 ∧
  ((x, y) ∈ sl → ∃ hr', d_moved [.fz hr, .fz (.int x), .fz (.int y)] = .ok hr' ∧ ∀ B' H', ExtM a l B H B' H' → BdAt Cb B' H' a l w bs hr' ((old ++ [(x, y)]).map prD) → Q (.str "ok") H') ∧
  ((x, y) ∉ sl → ∀ B' H', Ext B H B' H' → Q (.str "slide") H')
def spLTo (Cb : Addr) : Sp := fun vs H Q _ => ∃ a l B w bs hr old vg g, vs = [.ref a, vg] ∧ Same B H ∧ BdAt Cb B H a l w bs hr old ∧ Dt B vg g ∧ (match d_told [.fz w, .fz hr, .fz g] with
  | .ok d => ∀ v B' H', Ext B H B' H' → Dt B' v d → Q v H'
  | .er k => ∀ B' H', Ext B H B' H' → Q (.str (kName k)) H'
  | .no => False)
def spMade : Sp := fun vs H Q _ => ∃ (B : Hp) (vw vm : V) (w m : PyData) (k : MS.XK), vs = [vw, vm] ∧ Same B H ∧ Dt B vw w ∧ Dt B vm m ∧ d_look_marks [.fz w, .fz m] = .er k ∧ ∀ B' H', Ext B H B' H' → Q (.str (kName k)) H'
def spSame (Cb : Addr) : Sp := fun vs H Q _ => ∃ (a l : Addr) (B : Hp) (vw vm vr : V) (w w2 bs hr m s r : PyData) (old ds : List PyData), vs = [.ref a, vw, vm, vr] ∧ Same B H ∧ BdAt Cb B H a l w bs hr old ∧ Dt B vw w2 ∧ Dt B vm m ∧ Dt B vr r ∧
  cNe hr m = .ok false ∧ SlRun w bs hr ds ∧ d__law_slides [.fz w2, .fz m] = .ok s ∧ cNe (.list ds) s = .ok false ∧ cNe (.list old) r = .ok false ∧ ds.length < 900000 ∧ old.length < 1000 ∧ ∀ B' H', Ext B H B' H' → Q (.bl true) H'
/-- the class makes -/
structure MkS (P : Program) (w : World) (K : PySem.W.Frag) (mg : Str → Option Value) (base : Heap) (Cb : Addr) (ps : List Str) (k : Nat) (sp : Sp) : Prop where
  ex : ∃ f fd, FnOk P w K mg base (L2.CX P w) k f fd ps sp ∧ Mk K Cb f ∧ L2.Binds K fd ps []
theorem pe_mkS {X : Cx} {e : Expr} {es : List Expr} {t : TA} {W : WX} {p pos : Pos} {x : Str} {Cb : Addr} {ps : List Str} {k : Nat} {sp : Sp} (F : MkS X.prog X.w X.K X.mg X.base Cb ps k sp) (hr : Room (k + 1) X.A) (hm : X.mg x = some (.ref Cb)) (tk : Takes X W) (ha : PA X (e :: es) t) (hg : Gl X x := by rfl) (hdb : (x == ("__debug__" : Str)) = false := by decide)
    (he : starEach (e :: es) X.env = (false, eval e X.env) :: starEach es X.env := by rfl) (hpl : (backTo pos (starEach es X.env)).any (·.1) = false := by rfl) : PE X (.Call (.Name x p) (e :: es) [] pos) (tMakeE Cb sp (WE W) t) := by
  obtain ⟨f, fd, G, hm', hb⟩ := F.ex
  exact pe_makeE (E := WE W) hm' G hr hg hm hb (fun σ => passAt tk σ) ha hdb he hpl
section
variable {P : Program} {w : World} {K : PySem.W.Frag} {mg : Str → Option Value} {base : Heap} {ec : MS.XK → Addr} {CS Cb : Addr}
theorem ok_slid {f : Addr} {fd : FuncData} (F : L2.Fun K "_law_slid" "_law_slid" sSlid f fd) (T : Bcl K mg Cb) (Z : Tx K mg ec CS) (ML : MtS P w K mg base Cb "slide" ["self", "one", "other"] 5 (spSlide Cb ec)) (FR : Fn P w K mg base ec "_law_refusal" ["_law_kept"] 1 d__law_refusal) : FnOk P w K mg base (L2.CX P w) 6 f fd ["_law_board", "_law_one", "_law_other"] (spSlid Cb) := by
  have nd := scSlid.nd
  refine F.okX scSlid (fun vs H Q E h => ?_) (fun cdv A outer s H vs Q E hr h => ?_)
  · obtain ⟨a, l, x, y, B, w, bs, hr, old, sl, rfl, _⟩ := h
    rfl
  · obtain ⟨a, l, x, y, B, w', bs, hr', old, sl, rfl, sm, Bd, run, hol, hyes, hno⟩ := h
    have tk : Takes (cxOf (L2.CX P w) P w K mg base ["_law_board", "_law_one", "_law_other", "_law_kept", "e"] "_law_slid" (defScope sSlid) f cdv A outer s H E) (fun cls d _ H' => E cls d H') := takes_of rfl rfl rfl rfl
    refine ⟨_, pss_cons (ps_set (i := 3) nd rfl (.inl rfl) (pe_non)) (pss_cons (ps_try_keep (i := 4) (ts := fun _ _ _ => tAsg (tVar 4) (gName 3)) rfl rfl nd rfl rfl ⟨rfl, by decide, .inl Z.k.sl⟩ tk (fun W pn xe tk pw => pss_one (ps_expr (pe_mtS ML T.cl hr tk (pv 0) (pa_cons (pv 1) (pa_cons (pv 2) pa_nil))) rfl))
      (fun a oe cls d pn hz hv' => pss_one (ps_set (X := Cx.suite _ a ((a, oe) :: pn)) (i := 3) nd rfl (.inl rfl) (pe_var (i := 4) rfl (.inl rfl)))))
      (pss_one (ps_exC (W := fun cls d _ H' => E cls d H') (ec := ec) fun G B0 => xs_ret (xe_call FR (hr.mono (by decide)) (xs_cons (xb_var 3) xs_nil) (hn := (sa_len (sa_len0))))))), ?_⟩
    obtain ⟨dx, vw, vb, vh, h1, h2, h3, h4⟩ := Bd.ins
    have S0 : Stt K { G := H, B0 := B, W := fun cls d _ H' => E cls d H', ec := ec } B H ((L2.start ["_law_board", "_law_one", "_law_other", "_law_kept", "e"] [.ref a, .int x, .int y]).set 3 (some .non)) [.bx a, .fz (.int x), .fz (.int y), .fz .none, .nil] :=
      (stt_start (C := { G := H, B0 := B, W := fun cls d _ H' => E cls d H', ec := ec }) (K := K) (N := ["_law_board", "_law_one", "_law_other", "_law_kept", "e"]) (vs := [.ref a, .int x, .int y]) (ss := [.bx a, .fz (.int x), .fz (.int y)]) sm (.cons rfl (.cons (.int x) (.cons (.int y) .nil))) (by show 3 ≤ 5; decide)).set 3 .non
    refine ⟨.ref a, rfl, a, dx, _, rfl, h1, bf_no vw vb vh l (by decide +kernel) (by decide +kernel) (by decide +kernel) (by decide +kernel), .int x, rfl, .int y, rfl, ?_⟩
    refine ⟨a, l, x, y, B, w', bs, hr', old, sl, rfl, sm, Bd, run, hol, fun q => ?_, fun q B' H' x1 => ?_⟩
    · obtain ⟨hr2, m1, post⟩ := hyes q
      refine ⟨hr2, m1, fun B' H' e1 Bd1 => ?_⟩
      refine ⟨H', B', _, B', S0.rebase (noOwn_of rfl) e1.b e1.s, ?_⟩
      intro v B2 H2 s2 x2 t2
      cases t2
      have x2' : Ext B' H' B2 H2 := x2
      refine post B2 H2 ?_ (Bd1.on x2')
      obtain ⟨dx1, vw1, vb1, vh1, i1, _⟩ := Bd1.ins
      obtain ⟨xs1, j1, _⟩ := Bd1.lst
      exact e1.trans (ExtM.of x2') i1 j1
    · refine keep_er Z (by decide) (by show 4 < 5; decide) fun b nb => ?_
      have x2 : Ext B' H' (upd B' b (exO b (ec .slide))) (upd H' b (exO b (ec .slide))) := Ext.new x1.s nb
      refine ⟨_, _, _, _, (((S0.on x1).on x2).unset 4).setA (v := .ref b) 3 (s := .ex .slide) ⟨b, rfl, upd_same⟩ rfl, ?_⟩
      intro v B2 H2 s2 x3 t3
      cases t3
      exact hno q B2 H2 x3
theorem ok_lto {f : Addr} {fd : FuncData} (F : L2.Fun K "_law_to" "_law_to" sTo f fd) (T : Bcl K mg Cb) (Z : Tx K mg ec CS) (ML : MtS P w K mg base Cb "to" ["self", "goal"] 6 (spTo Cb ec)) (FR : Fn P w K mg base ec "_law_refusal" ["_law_kept"] 1 d__law_refusal) : FnOk P w K mg base (L2.CX P w) 7 f fd ["_law_board", "_law_goal"] (spLTo Cb) := by
  have nd := scLTo.nd
  refine F.okX scLTo (fun vs H Q E h => ?_) (fun cdv A outer s H vs Q E hr h => ?_)
  · obtain ⟨a, l, B, w, bs, hr, old, vg, g, rfl, _⟩ := h
    rfl
  · obtain ⟨a, l, B, w', bs, hr', old, vg, g, rfl, sm, Bd, tg, post⟩ := h
    have tk : Takes (cxOf (L2.CX P w) P w K mg base ["_law_board", "_law_goal", "_law_found", "_law_kept", "e"] "_law_to" (defScope sTo) f cdv A outer s H E) (fun cls d _ H' => E cls d H') := takes_of rfl rfl rfl rfl
    refine ⟨_, pss_cons (ps_set (i := 3) nd rfl (.inl rfl) (pe_non)) (pss_cons (ps_set (i := 2) nd rfl (.inl rfl) (pe_non)) (pss_cons (ps_try_keep (i := 4) (ts := fun _ _ _ => tAsg (tVar 4) (gName 3)) rfl rfl nd rfl rfl ⟨rfl, by decide, .inl Z.k.sl⟩ tk (fun W pn xe tk pw => pss_one (ps_set (i := 2) nd rfl (.inl rfl) (pe_mtS ML T.cl hr tk (pv 0) (pa_cons (pv 1) pa_nil))))
      (fun a oe cls d pn hz hv' => pss_one (ps_set (X := Cx.suite _ a ((a, oe) :: pn)) (i := 3) nd rfl (.inl rfl) (pe_var (i := 4) rfl (.inl rfl)))))
      (pss_one (ps_exC (W := fun cls d _ H' => E cls d H') (ec := ec) fun G B0 => xs_ret (xe_if (xt_cisn (xb_var 3)) (xe_var 2) (xe_call FR (hr.mono (by decide)) (xs_cons (xb_var 3) xs_nil) (hn := (sa_len (sa_len0))))))))), ?_⟩
    obtain ⟨dx, vw, vb, vh, h1, h2, h3, h4⟩ := Bd.ins
    have S0 : Stt K { G := H, B0 := B, W := fun cls d _ H' => E cls d H', ec := ec } B H (((L2.start ["_law_board", "_law_goal", "_law_found", "_law_kept", "e"] [.ref a, vg]).set 3 (some .non)).set 2 (some .non)) [.bx a, .fz g, .fz .none, .fz .none, .nil] :=
      ((stt_start (C := { G := H, B0 := B, W := fun cls d _ H' => E cls d H', ec := ec }) (K := K) (N := ["_law_board", "_law_goal", "_law_found", "_law_kept", "e"]) (vs := [.ref a, vg]) (ss := [.bx a, .fz g]) sm (.cons rfl (.cons tg .nil)) (by show 2 ≤ 5; decide)).set 3 .non).set 2 .non
    refine ⟨.ref a, rfl, a, dx, _, rfl, h1, bf_no vw vb vh l (by decide +kernel) (by decide +kernel) (by decide +kernel) (by decide +kernel), vg, rfl, ?_⟩
    refine ⟨a, l, B, w', bs, hr', old, vg, g, rfl, sm, Bd, tg, ?_⟩
    cases e : d_told [.fz w', .fz hr', .fz g] with
    | ok d =>
      rw [e] at post
      intro v B' H' x1 t1
      refine ⟨_, _, _, _, (S0.on x1).set 2 t1, ?_⟩
      intro v2 B2 H2 s2 x2 t2
      exact post v2 B2 H2 x2 t2
    | er k =>
      rw [e] at post
      intro B' H' x1
      refine keep_er Z (by decide) (by show 4 < 5; decide) fun b nb => ?_
      have x2 : Ext B' H' (upd B' b (exO b (ec k))) (upd H' b (exO b (ec k))) := Ext.new x1.s nb
      refine ⟨_, _, _, _, (((S0.on x1).on x2).unset 4).setA (v := .ref b) 3 (s := .ex k) ⟨b, rfl, upd_same⟩ rfl, ?_⟩
      have hk : ∀ (D : Ends) (X : Hp), (∀ v B2 H2, Same X B2 → Ext B H B2 H2 → Dt B2 v (.str (kName k)) → D.rt v H2) → pS K { G := H, B0 := B, W := fun cls d _ H' => E cls d H', ec := ec } D X (sRet (dIf (tIsN (bVar 3)) (dVar 2) (dCall d__law_refusal (saCons (bVar 3) saNil))) [.bx a, .fz g, .fz .none, .ex k, .nil]) := by
        intro D X hh
        cases k <;> exact hh
      refine hk _ _ fun v B2 H2 s2 x3 t3 => ?_
      cases t3
      exact post B2 H2 x3
    | no => rw [e] at post; exact post.elim
theorem ok_made {f : Addr} {fd : FuncData} (F : L2.Fun K "_law_made" "_law_made" sMade f fd) (T : Bcl K mg Cb) (Z : Tx K mg ec CS) (MB : MkS P w K mg base Cb ["self", "web", "marks"] 3 (spInit Cb ec)) (FR : Fn P w K mg base ec "_law_refusal" ["_law_kept"] 1 d__law_refusal) : FnOk P w K mg base (L2.CX P w) 5 f fd ["_law_web_here", "_law_marks_here"] spMade := by
  have nd := scMade.nd
  refine F.okX scMade (fun vs H Q E h => ?_) (fun cdv A outer s H vs Q E hr h => ?_)
  · obtain ⟨B, vw, vm, w, m, k, rfl, _⟩ := h
    rfl
  · obtain ⟨B, vw, vm, w', m, k, rfl, sm, t1, t2, e, post⟩ := h
    have tk : Takes (cxOf (L2.CX P w) P w K mg base ["_law_web_here", "_law_marks_here", "_law_kept", "e"] "_law_made" (defScope sMade) f cdv A outer s H E) (fun cls d _ H' => E cls d H') := takes_of rfl rfl rfl rfl
    refine ⟨_, pss_cons (ps_set (i := 2) nd rfl (.inl rfl) (pe_non)) (pss_cons (ps_try_keep (i := 3) (ts := fun _ _ _ => tAsg (tVar 3) (gName 2)) rfl rfl nd rfl rfl ⟨rfl, by decide, .inl Z.k.sl⟩ tk (fun W pn xe tk pw => pss_one (ps_expr (pe_mkS MB hr T.mgC tk (pa_cons (pv 0) (pa_cons (pv 1) pa_nil))) rfl))
      (fun a oe cls d pn hz hv' => pss_one (ps_set (X := Cx.suite _ a ((a, oe) :: pn)) (i := 2) nd rfl (.inl rfl) (pe_var (i := 3) rfl (.inl rfl)))))
      (pss_one (ps_exC (W := fun cls d _ H' => E cls d H') (ec := ec) fun G B0 => xs_ret (xe_call FR (hr.mono (by decide)) (xs_cons (xb_var 2) xs_nil) (hn := (sa_len (sa_len0))))))), ?_⟩
    have S0 : Stt K { G := H, B0 := B, W := fun cls d _ H' => E cls d H', ec := ec } B H ((L2.start ["_law_web_here", "_law_marks_here", "_law_kept", "e"] [vw, vm]).set 2 (some .non)) [.fz w', .fz m, .fz .none, .nil] :=
      (stt_start (C := { G := H, B0 := B, W := fun cls d _ H' => E cls d H', ec := ec }) (K := K) (N := ["_law_web_here", "_law_marks_here", "_law_kept", "e"]) (vs := [vw, vm]) (ss := [.fz w', .fz m]) sm (.cons t1 (.cons t2 .nil)) (by show 2 ≤ 4; decide)).set 2 .non
    refine ⟨vw, rfl, vm, rfl, fun x dx hx hdx ne => ?_⟩
    have hx' : upd H dx (.own x) x = none := by rw [upd_ne ne.symm]; exact hx
    have x0 : Ext B H B (upd (upd H dx (.own x)) x (.ins Cb dx [])) := (Ext.raw sm hdx).trans (Ext.raw (Ext.raw sm hdx).s hx')
    refine .inl ⟨x, B, vw, vm, w', m, k, rfl, x0.s, t1, t2, e, fun B' H' x1 => ?_⟩
    have x01 := x0.trans x1
    refine keep_er Z (by decide) (by show 3 < 4; decide) fun b nb => ?_
    have x2 : Ext B' H' (upd B' b (exO b (ec k))) (upd H' b (exO b (ec k))) := Ext.new x1.s nb
    refine ⟨_, _, _, _, (((S0.on x01).on x2).unset 3).setA (v := .ref b) 2 (s := .ex k) ⟨b, rfl, upd_same⟩ rfl, ?_⟩
    have hk : ∀ (D : Ends) (X : Hp), (∀ v B2 H2, Same X B2 → Ext B H B2 H2 → Dt B2 v (.str (kName k)) → D.rt v H2) → pS K { G := H, B0 := B, W := fun cls d _ H' => E cls d H', ec := ec } D X (sRet (dCall d__law_refusal (saCons (bVar 2) saNil)) [.fz w', .fz m, .ex k, .nil]) := by
      intro D X hh
      cases k <;> exact hh
    refine hk _ _ fun v B2 H2 s2 x3 t3 => ?_
    cases t3
    exact post B2 H2 x3
theorem ok_same {f : Addr} {fd : FuncData} (F : L2.Fun K "_law_same" "_law_same" sSame f fd) (T : Bcl K mg Cb) (M1 : MtS P w K mg base Cb "marks" ["self"] 1 (spMarks Cb)) (M2 : MtS P w K mg base Cb "slides" ["self"] 4 (spSlides Cb)) (M3 : MtS P w K mg base Cb "row" ["self"] 1 (spRow Cb)) (FS : Fn P w K mg base ec "_law_slides" ["_law_web_here", "_law_marks_here"] 2 d__law_slides) : FnOk P w K mg base (L2.CX P w) 5 f fd ["_law_board", "_law_web_here", "_law_marks_here", "_law_row"] (spSame Cb) := by
  have nd := scSame.nd
  refine F.okX scSame (fun vs H Q E h => ?_) (fun cdv A outer s H vs Q E hr h => ?_)
  · obtain ⟨a, l, B, vw, vm, vr, w, w2, bs, hr, m, s, r, old, ds, rfl, _⟩ := h
    rfl
  · obtain ⟨a, l, B, vw, vm, vr, w', w2, bs, hr', m, sd, r, old, ds, rfl, sm, Bd, tw, tm, tr, c1, run, es, c2, c3, hdl, hol, post⟩ := h
    have tk : Takes (cxOf (L2.CX P w) P w K mg base ["_law_board", "_law_web_here", "_law_marks_here", "_law_row"] "_law_same" (defScope sSame) f cdv A outer s H E) (fun cls d _ H' => E cls d H') := takes_of rfl rfl rfl rfl
    refine ⟨_, pss_cons (ps_if (pw_or (pt_cmpR (cm_ne hr).op (pe_mtS0 M1 T.cl (hr.mono (by decide)) tk (pv 0)) (pv 2) (nomark _)) (pw_or (pt_cmpR (cm_ne hr).op (pe_mtS0 M2 T.cl hr tk (pv 0)) (pe_fnS (fnS_of FS) (hr.mono (by decide)) tk (pa_cons (pv 1) (pa_cons (pv 2) pa_nil))) (nomark _)) (pw_or1 (pt_cmpR (cm_ne hr).op (pe_mtS0 M3 T.cl (hr.mono (by decide)) tk (pv 0)) (pv 3) (nomark _))))).pt (pss_one (ps_ret pe_bl)) pss_nil)
      (pss_cons (ps_expr (pe_bm PySem.F.plainAttrs_list PySem.F.slot_list_append PySem.F.type_list_append mt_append (pe_mtS0 M2 T.cl hr tk (pv 0)) (pa_cons (pe_tup (pa_cons pe_int (pa_cons pe_int pa_nil))) pa_nil)) rfl)
      (pss_cons (ps_expr (pe_bm PySem.F.plainAttrs_list PySem.F.slot_list_append PySem.F.type_list_append mt_append (pe_mtS0 M3 T.cl (hr.mono (by decide)) tk (pv 0)) (pa_cons (pe_tup (pa_cons pe_int (pa_cons pe_int pa_nil))) pa_nil)) rfl)
      (pss_one (ps_ret pe_bl)))), ?_⟩
    obtain ⟨dx, vW, vB, vH, h1, h2, h3, h4⟩ := id Bd.ins
    have noM : (bf vW vB vH l).lookup ("marks" : Str) = none := bf_no vW vB vH l (by decide +kernel) (by decide +kernel) (by decide +kernel) (by decide +kernel)
    have noS : (bf vW vB vH l).lookup ("slides" : Str) = none := bf_no vW vB vH l (by decide +kernel) (by decide +kernel) (by decide +kernel) (by decide +kernel)
    have noR : (bf vW vB vH l).lookup ("row" : Str) = none := bf_no vW vB vH l (by decide +kernel) (by decide +kernel) (by decide +kernel) (by decide +kernel)
    -- marks
    refine ⟨.ref a, rfl, a, dx, _, rfl, h1, noM, a, l, B, w', bs, hr', old, rfl, sm, Bd, fun v tv => ?_⟩
    refine ⟨vm, rfl, B, hr', m, false, sm, tv, tm, c1, false, rfl, ite_no ?_⟩
    -- slides
    refine ⟨.ref a, rfl, a, dx, _, rfl, h1, noS, a, l, B, w', bs, hr', old, ds, rfl, sm, Bd, run, fun p xs B1 H1 x1 p1 p2 p3 p4 => ?_⟩
    refine ⟨vw, rfl, vm, rfl, rfl, B1, [.fz w2, .fz m], x1.s, .cons (tw.on x1.b) (.cons (tm.on x1.b) .nil), ?_⟩
    rw [es]
    intro v2 B2 H2 x2 t2
    have n2 : B2 p = none := none_ext x2 p3 p2
    have k2 : H2 p = some (.lst xs) := x2.h _ _ p3
    have sp2 : Same (upd B2 p (.lst xs)) H2 := fun c o e => by
      by_cases z : c = p
      · subst z
        rw [upd_same] at e
        rw [k2]
        exact e
      · rw [upd_ne z] at e
        exact x2.s _ _ e
    refine ⟨upd B2 p (.lst xs), .list ds, sd, false, sp2, .lst upd_same ((p4.on x2.b).on (same_new n2)), t2.on (same_new n2), c2, false, rfl, ite_no ?_⟩
    have x12 := x1.trans x2
    have Bd2 := Bd.on x12
    -- row
    refine ⟨.ref a, rfl, a, dx, _, rfl, x12.h _ _ h1, noR, a, l, B2, w', bs, hr', old, rfl, x12.s, Bd2, fun q ys B3 H3 x3 q1 q2 q3 q4 => ?_⟩
    have sp3 : Same (upd B3 q (.lst ys)) H3 := fun c o e => by
      by_cases z : c = q
      · subst z
        rw [upd_same] at e
        rw [q3]
        exact e
      · rw [upd_ne z] at e
        exact x3.s _ _ e
    refine ⟨vr, rfl, upd B3 q (.lst ys), .list old, r, false, sp3, .lst upd_same (q4.on (same_new q2)), (((tr.on x12.b).on x3.b).on (same_new q2)), c3, false, rfl, ite_no ?_⟩
    have x13 := x12.trans x3
    have Bd3 := Bd2.on x3
    -- slides().append
    refine ⟨.ref a, rfl, a, dx, _, rfl, x13.h _ _ h1, noS, a, l, B3, w', bs, hr', old, ds, rfl, x13.s, Bd3, run, fun p' xs' B4 H4 x4 r1 r2 r3 r4 => ?_⟩
    have x14 := x13.trans x4
    have g4 : H p' = none := x13.h.free r1
    refine ⟨.inl ⟨rfl, xs', SqL.of r3⟩, by show 2 ≤ sizeLine; decide, fun t nt => ?_⟩
    have ntp : p' ≠ t := ne_of_none r3 nt
    have x5 : Ext B H B4 (upd H4 t (.tup [.int 0, .int 0])) := x14.trans (Ext.raw x14.s nt)
    refine ⟨p', xs', .ref t, rfl, rfl, by rw [upd_ne ntp]; exact r3, ?_, ?_⟩
    · rw [r4.len]
      exact lim_lt (by show ds.length ≤ 1000000; omega)
    generalize hH5 : upd (upd H4 t (.tup [.int 0, .int 0])) p' (.lst (xs' ++ [.ref t])) = H5
    have x6 : Ext B H B4 H5 := by rw [← hH5]; exact x5.mutN r2 g4
    have Bd5 := Bd.on x6
    -- row().append
    refine ⟨.ref a, rfl, a, dx, _, rfl, x6.h _ _ h1, noR, a, l, B4, w', bs, hr', old, rfl, x6.s, Bd5, fun q' ys' B6 H6 x7 u1 u2 u3 u4 => ?_⟩
    have x17 := x6.trans x7
    have g6 : H q' = none := x6.h.free u1
    refine ⟨.inl ⟨rfl, ys', SqL.of u3⟩, by show 2 ≤ sizeLine; decide, fun t' nt' => ?_⟩
    have ntp' : q' ≠ t' := ne_of_none u3 nt'
    have x8 : Ext B H B6 (upd H6 t' (.tup [.int 0, .int 0])) := x17.trans (Ext.raw x17.s nt')
    refine ⟨q', ys', .ref t', rfl, rfl, by rw [upd_ne ntp']; exact u3, ?_, ?_⟩
    · rw [u4.len]
      exact lim_lt (by show old.length ≤ 1000000; omega)
    exact post _ _ (x8.mutN u2 g6)
end
end MS

/-! MsB8: plain facts of boards. -/
namespace MS
open PySem

theorem W_nx {o : Ou} {N : Env → Prop} (h : W o N (fun _ => False)) : ∃ ρ, o = .nx ρ ∧ N ρ := by
  cases o with
  | nx ρ => exact ⟨ρ, rfl, h⟩
  | _ => exact h.elim
theorem slRun_of {n m : Int} {ps : List (Int × Int)} (h : GoodWeb n m ps) (hm : m ≤ 12) {ms : List Int} (hr : ∀ s ∈ ms, 0 ≤ s ∧ s < n) (hl : ms.length ≤ 50) : SlRun (webP n ps) (besD (nbr ps) n.toNat) (tupI ms) ((slidesM n ps ms).map prD) := by
  refine W_nx (N := fun ρ => ρ[3]? = some (.ow ((slidesM n ps ms).map prD))) ?_
  obtain ⟨g1, g2, g3, g4, g5⟩ := h
  have hnl : ∀ a, (nbr ps a).length ≤ 1000 := nbr_len (by omega)
  have hsl : ∀ a, (slidesAt n ps ms a).length ≤ 1000 := fun a => by
    unfold slidesAt
    rw [List.length_map]
    exact Nat.le_trans (List.length_filter_le _ _) (hnl a)
  refine wp_for (ds := ms.map .int) rfl (fun i ρ => ∃ s4 s5, ρ = [.fz (webP n ps), .fz (besD (nbr ps) n.toNat), .fz (tupI ms), .ow (((ms.take i).flatMap (slidesAt n ps ms)).map prD), s4, s5]) ⟨_, _, rfl⟩ ?_ ?_
  · rintro i d ρ hd ⟨s4, s5, rfl⟩
    rw [List.getElem?_map] at hd
    cases ea : ms[i]? with
    | none => rw [ea] at hd; cases hd
    | some a =>
      rw [ea] at hd
      cases hd
      have hi : i < ms.length := (List.getElem?_eq_some_iff.mp ea).1
      have ha := hr a (List.mem_of_getElem? ea)
      have hacc : ((ms.take i).flatMap (slidesAt n ps ms)).length ≤ 50 * 1000 := by
        have h1 := flat_len (f := slidesAt n ps ms) (c := 1000) (l := ms.take i) fun x _ => hsl x
        have h2 : (ms.take i).length ≤ 50 := by rw [List.length_take]; omega
        omega
      refine ⟨_, rfl, ?_⟩
      have hb : iSeq (bOf (dIx (bVar 1) (dVar 4))) [.fz (webP n ps), .fz (besD (nbr ps) n.toNat), .fz (tupI ms), .ow (((ms.take i).flatMap (slidesAt n ps ms)).map prD), .fz (.int a), s5] = .ok ((nbr ps a).map .int) := by
        have eb : ((List.range n.toNat).map fun (i : Nat) => lstI (nbr ps i))[a.toNat]? = some (lstI (nbr ps a)) := by
          rw [List.getElem?_map, List.getElem?_range (by omega)]
          show some (lstI (nbr ps ((a.toNat : Nat) : Int))) = _
          rw [Int.toNat_of_nonneg ha.1]
        simp [besD, atD_pos _ a ha.1, eb]
      refine wp_for (ds := (nbr ps a).map .int) hb (fun j ρ => ∃ s5, ρ = [.fz (webP n ps), .fz (besD (nbr ps) n.toNat), .fz (tupI ms), .ow (((ms.take i).flatMap (slidesAt n ps ms) ++ (((nbr ps a).take j).filter fun b => !decide (b ∈ ms) && isMarks n ps (movedM ms a b)).map fun b => (a, b)).map prD), .fz (.int a), s5]) ⟨_, by simp; rfl⟩ ?_ ?_
      · rintro j d ρ hd ⟨t5, rfl⟩
        rw [List.getElem?_map] at hd
        cases eb : (nbr ps a)[j]? with
        | none => rw [eb] at hd; cases hd
        | some b =>
          rw [eb] at hd
          cases hd
          have hj : j < (nbr ps a).length := (List.getElem?_eq_some_iff.mp eb).1
          have hnla := hnl a
          have htk : (nbr ps a).take (j + 1) = (nbr ps a).take j ++ [b] := by rw [List.take_add_one, eb]; rfl
          have hmv := moved_den ms a b (by omega)
          have hml := moved_len ms a b
          have him := is_marks_den n ps (movedM ms a b) (by omega) (by omega)
          refine ⟨_, rfl, ?_⟩
          have hG : (((nbr ps a).take (j + 1)).filter fun b => !decide (b ∈ ms) && isMarks n ps (movedM ms a b)).map (fun b => (a, b)) = (((nbr ps a).take j).filter fun b => !decide (b ∈ ms) && isMarks n ps (movedM ms a b)).map (fun b => (a, b)) ++ (if (!decide (b ∈ ms) && isMarks n ps (movedM ms a b)) = true then [(a, b)] else []) := by
            rw [htk]
            exact snoc_filter _ _ _ _
          have hfl := List.length_filter_le (fun b => !decide (b ∈ ms) && isMarks n ps (movedM ms a b)) ((nbr ps a).take j)
          rw [List.length_take] at hfl
          have hgl : ((((nbr ps a).take j).filter fun b => !decide (b ∈ ms) && isMarks n ps (movedM ms a b)).map (fun b => (a, b))).length ≤ 1000 := by rw [List.length_map]; omega
          rw [hG]
          generalize (((nbr ps a).take j).filter fun b => !decide (b ∈ ms) && isMarks n ps (movedM ms a b)).map (fun b => (a, b)) = got at hgl ⊢
          refine wp_if (b := !decide (b ∈ ms) && isMarks n ps (movedM ms a b)) ?_ (fun q => ?_) (fun q => ?_)
          · by_cases q : b ∈ ms
            · simp [q]
            · simp [q, hmv, him]
          · refine wp_app (ds := ((ms.take i).flatMap (slidesAt n ps ms) ++ got).map prD) (d := prD (a, b)) rfl rfl (by rw [List.length_map, List.length_append]; omega) ⟨.fz (.int b), ?_⟩
            rw [if_pos q, ← List.append_assoc, List.map_append (l₂ := [(a, b)])]
            rfl
          · refine wp_nx ⟨.fz (.int b), ?_⟩
            rw [if_neg (by rw [q]; exact Bool.false_ne_true), List.append_nil]
            rfl
      · rintro ρ ⟨t5, rfl⟩
        rw [List.length_map, List.take_length]
        exact ⟨_, _, by rw [take_flat _ ea]; rfl⟩
  · rintro ρ ⟨s4, s5, rfl⟩
    rw [List.length_map, List.take_length]
    rfl
theorem nearRun_of {n m : Int} {ps : List (Int × Int)} (h : GoodWeb n m ps) (hm : m ≤ 12) : NearRun n ps (besD (nbr ps) n.toNat) := by
  obtain ⟨g1, g2, g3, g4, g5⟩ := h
  have hq : ∀ q ∈ ps, 0 ≤ q.1 ∧ 0 ≤ q.2 := fun q hq => by have := g3 q hq; omega
  refine ⟨⟨by omega, by omega, by omega, List.all_eq_true.mpr fun p hp => decide_eq_true (by have := g3 p hp; omega)⟩, ?_⟩
  have : lComp (iSeq (bVar 1)) (gN 5) tYes (dLst (lSorted (bVar 5))) [5] [.nil, .fz (.list ((nearGo ps (List.replicate n.toNat [])).map lstI)), .nil, .nil, .nil, .nil] = .ok ((nearGo ps (List.replicate n.toNat [])).map fun l => lstI (sortZ l)) := by
    refine lcomp_a (f := lstI) rfl rfl (by rw [nearGo_len, List.length_replicate]; omega) fun l hl => ⟨_, rfl, ?_⟩
    have hll : l.length ≤ 1000 := by
      obtain ⟨i, hi, rfl⟩ := List.mem_iff_getElem.mp hl
      have hi' : i < n.toNat := by rw [nearGo_len, List.length_replicate] at hi; exact hi
      have := nearGo_get (j := i) (dss := List.replicate n.toNat []) hq (by simpa using hi')
      rw [List.getD_eq_getElem?_getD, List.getElem?_eq_getElem hi, List.getD_eq_getElem?_getD, List.getElem?_replicate, if_pos hi'] at this
      simp only [Option.getD_some, List.nil_append] at this
      rw [this]
      have := beside_len (i := (i : Int)) ps
      omega
    have o : sortS (.fz (lstI l)) = .ok ((sortZ l).map .int) := sortD_ints (by omega)
    simp [wipeE, o]
  show (dLst (lComp (iSeq (bVar 1)) (gN 5) tYes (dLst (lSorted (bVar 5))) [5])) [.nil, .fz (.list ((nearGo ps (List.replicate n.toNat [])).map lstI)), .nil, .nil, .nil, .nil] = _
  rw [dLst_e, this, ← besD_near, ← nearGo_near hq, List.map_map]
  rfl
theorem up_ext {a b : List Int} (ha : Up a) (hb : Up b) (h : ∀ x, x ∈ a ↔ x ∈ b) : a = b :=
  List.Perm.eq_of_pairwise (le := fun x y => x ≤ y) (fun x y _ _ h1 h2 => Int.le_antisymm h1 h2) (ha.imp fun h => Int.le_of_lt h) (hb.imp fun h => Int.le_of_lt h) ((List.perm_ext_iff_of_nodup (Up.nodup ha) (Up.nodup hb)).mpr h)
theorem undo {ms : List Int} {a b : Int} (hu : Up ms) (ha : a ∈ ms) (hb : b ∉ ms) : movedM (movedM ms a b) b a = ms := by
  have na : a ∉ movedM ms a b := fun q => by
    rcases moved_mem.mp q with ⟨_, z⟩ | z
    · exact z rfl
    · subst z; exact hb ha
  refine up_ext (moved_up (moved_up hu hb) na) hu fun x => ?_
  rw [moved_mem, moved_mem]
  constructor
  · rintro (⟨⟨q, _⟩ | q, z⟩ | q)
    · exact q
    · exact absurd q z
    · subst q; exact ha
  · intro q
    by_cases z : x = a
    · exact .inr z
    · exact .inl ⟨.inl ⟨q, z⟩, fun e => by subst e; exact hb q⟩
theorem told_er {w x g : PyData} {k : XK} (hx : d_fewest [.fz w, .fz x, .fz g] = .er k) : d_told [.fz w, .fz x, .fz g] = .er k := by
  refine wp_run [.fz w, .fz x, .fz g, .nil] ?_
  exact wp_seq (wp_set_er (k := k) (by simp [hx]) rfl)
section
variable {n m : Int} {ps : List (Int × Int)} (h : GoodWeb n m ps) (hm : m ≤ 12) {ms : List Int} (hg : GoodMarks n ps ms) (hl : ms.length ≤ 4)
include h hm hg hl
theorem told_same {g : List Int} (hgg : GoodMarks n ps g) (hgl : g.length = ms.length) : ∃ d, d_told [.fz (webP n ps), .fz (tupI ms), .fz (tupI g)] = .ok d ∧ shN 5 d := by
  obtain ⟨T, t1, t2, t3⟩ := w_end h hg hm hl g
  have hf := fewest_den h hm hg hl hgg hgl t1 t2 t3
  cases e : lookR g (wst n ps ms T).2 with
  | some r =>
    rw [e] at hf
    refine ⟨_, told_way h hm hg hl hf, sh_mono (n := 4) (sh_tuple fun d hd => ?_) (by decide)⟩
    have : d = .str "way" ∨ d = rowD r := by simpa using hd
    rcases this with rfl | rfl
    · exact sh_mono (sh_str _ (by decide +kernel)) (by decide)
    · exact sh_row r
  | none =>
    rw [e] at hf
    obtain ⟨K, _, hr⟩ := room_den h hm hg hl
    refine ⟨_, told_room h hm hg hl hf hr, sh_mono (n := 4) (sh_tuple fun d hd => ?_) (by decide)⟩
    have : d = .str "room" ∨ d = .list ((sortT K).map tupI) := by simpa using hd
    rcases this with rfl | rfl
    · exact sh_mono (sh_str _ (by decide +kernel)) (by decide)
    · exact sh_listT _
theorem told_unlike {g : List Int} (hgg : GoodMarks n ps g) (hgl : g.length ≤ 4) (hne : g.length ≠ ms.length) : d_told [.fz (webP n ps), .fz (tupI ms), .fz (tupI g)] = .er .unlike := by
  refine told_er (fewest_er ?_)
  rw [look_two_den (good_ok h hm) (by have := h.2.2.2.2; omega) (by omega) (by omega), marks_up hg.1 hg.2.1, hg.2.2, marks_up hgg.1 hgg.2.1, hgg.2.2, if_pos rfl, if_pos rfl, if_neg (fun z => hne z.symm)]
theorem told_bad (hn : n ≤ 12) : d_told [.fz (webP n ps), .fz (tupI ms), .fz (tupI [99])] = .er .marks := by
  refine told_er (fewest_er ?_)
  have hb : isMarks n ps [99] = false := marks_bad_at (s := 99) List.mem_cons_self (by omega)
  rw [look_two_den (good_ok h hm) (by have := h.2.2.2.2; omega) (by omega) (by simp), marks_up hg.1 hg.2.1, hg.2.2, hb]
  rfl
end
theorem look_bad {n m : Int} {ps : List (Int × Int)} (h : GoodWeb n m ps) (hm : m ≤ 12) : d_look_marks [.fz (webP n ps), .fz (tupI [99])] = .er .marks := by
  have hb : isMarks n ps [99] = false := marks_bad_at (s := 99) List.mem_cons_self (by have := h.2.1; omega)
  rw [look_marks_den n ps [99] (good_ok h hm) (by have := h.2.2.2.2; omega) (by simp), hb]
  rfl
theorem look_bad_web : d_look_marks [.fz (webP 13 []), .fz (tupI [99])] = .er .web := look_marks_bad (ls := []) (bad_n (by decide)) (by simp) (tupI [99])
end MS

/-! MsB9: the law's state: its slots and two boards beside them. -/
namespace MS
open PySem L2 PyProof.Rows

/-- two boards of one web stand; the law's slots are ρ -/
structure LS (K : PySem.W.Frag) (W : WX) (ec : MS.XK → Addr) (Cb : Addr) (w bs f : PyData) (a1 l1 a2 l2 : Addr) (m : PyData) (row : List PyData) (ρ : Env) (B H : Hp) (σ : L2.St) : Prop where
  s : Stt K { G := H, B0 := B, W := W, ec := ec } B H σ ρ
  b1 : BdAt Cb B H a1 l1 w bs m row
  b2 : BdAt Cb B H a2 l2 w bs f []
  na : a1 ≠ a2
  nl : l1 ≠ l2
  no : noOwn ρ = true
theorem BdAt.onM {Cb : Addr} {B H B' H' : Hp} {a l a1 l1 : Addr} {w bs hr : PyData} {old : List PyData} {w1 bs1 hr1 : PyData} {old1 : List PyData} (h : BdAt Cb B H a l w bs hr old) (h1 : BdAt Cb B H a1 l1 w1 bs1 hr1 old1) (na : a1 ≠ a) (nl : l1 ≠ l) (x : ExtM a1 l1 B H B' H') : BdAt Cb B' H' a l w bs hr old := by
  obtain ⟨⟨dx, vw, vb, vh, i1, i2, i3, i4⟩, ⟨xs, g1, g2⟩, nA, nL⟩ := h
  obtain ⟨⟨dx1, vw1, vb1, vh1, j1, _⟩, ⟨ys, k1, _⟩, _, _⟩ := h1
  have e1 : a ≠ l1 := by rintro rfl; rw [i1] at k1; cases k1
  have e2 : l ≠ a1 := by rintro rfl; rw [g1] at j1; cases j1
  refine ⟨⟨dx, vw, vb, vh, x.h _ _ (Ne.symm na) e1 i1, i2.on x.b, i3.on x.b, i4.on x.b⟩, ⟨xs, x.h _ _ e2 (Ne.symm nl) g1, g2.on x.b⟩, ?_, ?_⟩
  · cases e : B' a with
    | none => rfl
    | some o =>
      rcases x.n a o e with q | q | ⟨q, ys, rfl⟩
      · rw [nA] at q; cases q
      · rw [i1] at q; cases q
      · rw [i1] at q; cases q
  · cases e : B' l with
    | none => rfl
    | some o =>
      rcases x.n l o e with q | q | ⟨q, ys, rfl⟩
      · rw [nL] at q; cases q
      · rw [g1] at q; cases q
      · rw [g1] at q; cases q
section
variable {K : PySem.W.Frag} {W : WX} {ec : MS.XK → Addr} {Cb : Addr} {w bs f : PyData} {a1 l1 a2 l2 : Addr} {m : PyData} {row : List PyData} {ρ ρ' : Env} {B H B' H' : Hp} {σ σ' : L2.St}
theorem LS.sm (L : LS K W ec Cb w bs f a1 l1 a2 l2 m row ρ B H σ) : Same B H := L.s.sm
theorem LS.on (L : LS K W ec Cb w bs f a1 l1 a2 l2 m row ρ B H σ) (s : Stt K { G := H, B0 := B, W := W, ec := ec } B' H' σ' ρ') (no : noOwn ρ' = true) : LS K W ec Cb w bs f a1 l1 a2 l2 m row ρ' B' H' σ' :=
  ⟨s.rebase (noOwn_of no) (Same.refl _) s.sm, L.b1.on s.x, L.b2.on s.x, L.na, L.nl, no⟩
theorem LS.ext (L : LS K W ec Cb w bs f a1 l1 a2 l2 m row ρ B H σ) (x : Ext B H B' H') : LS K W ec Cb w bs f a1 l1 a2 l2 m row ρ B' H' σ := L.on (L.s.on x) L.no
theorem LS.extM (L : LS K W ec Cb w bs f a1 l1 a2 l2 m row ρ B H σ) {m' : PyData} {row' : List PyData} (x : ExtM a1 l1 B H B' H') (b : BdAt Cb B' H' a1 l1 w bs m' row') : LS K W ec Cb w bs f a1 l1 a2 l2 m' row' ρ B' H' σ :=
  ⟨L.s.rebase (noOwn_of L.no) x.b x.s, b, L.b2.onM L.b1 L.na L.nl x, L.na, L.nl, L.no⟩
/-- what lies in a slot -/
theorem LS.fz (L : LS K W ec Cb w bs f a1 l1 a2 l2 m row ρ B H σ) (i : Nat) {d : PyData} (e : ρ[i]? = some (.fz d)) : ∃ v, σ[i]? = some (some v) ∧ Dt B v d := L.s.r.at' i _ e (by intro q; cases q)
theorem LS.bx (L : LS K W ec Cb w bs f a1 l1 a2 l2 m row ρ B H σ) (i : Nat) {a : Addr} (e : ρ[i]? = some (.bx a)) : σ[i]? = some (some (.ref a)) := by
  obtain ⟨v, h1, h2⟩ := L.s.r.at' i _ e (by intro q; cases q)
  cases (show v = .ref a from h2)
  exact h1
end
section
variable {X : Cx} {W : WX} {ec : MS.XK → Addr} {st : Stmt} {g : DS} {e : Expr} {f : DE} {t : DT}
theorem ls_ps (h : ∀ G B0, XS X { G := G, B0 := B0, W := W, ec := ec } st g) : PS X st (fun D σ H => ∃ Cb w bs f a1 l1 a2 l2 m row ρ B ρ', LS X.K W ec Cb w bs f a1 l1 a2 l2 m row ρ B H σ ∧ g ρ = .nx ρ' ∧ noOwn ρ' = true ∧ ∀ σ' B' H', LS X.K W ec Cb w bs f a1 l1 a2 l2 m row ρ' B' H' σ' → D.nx σ' H') :=
  (ps_exC h).imp fun D σ H ⟨Cb, w, bs, f, a1, l1, a2, l2, m, row, ρ, B, ρ', L, e, no, k⟩ => ⟨H, B, ρ, B, L.s, by
    rw [e]
    exact fun σ' B' H' s S => k σ' B' H' (L.on S no)⟩
theorem ls_pe (h : ∀ G B0, XE X { G := G, B0 := B0, W := W, ec := ec } e f) : PE X e (fun σ H Q => ∃ Cb w bs f' a1 l1 a2 l2 m row ρ B d, LS X.K W ec Cb w bs f' a1 l1 a2 l2 m row ρ B H σ ∧ f ρ = .ok d ∧ ∀ v B' H', Ext B H B' H' → LS X.K W ec Cb w bs f' a1 l1 a2 l2 m row ρ B' H' σ → Dt B' v d → Q v H') :=
  ⟨fun pins s σ H Q I ⟨Cb, w, bs, f', a1, l1, a2, l2, m, row, ρ, B, d, L, e, k⟩ => (h H B).run pins s σ H Q I ⟨ρ, B, L.s, by
    rw [e]
    exact fun v B' H' x t => k v B' H' x (L.ext x) t⟩⟩
theorem ls_pt (h : ∀ G B0, XT X { G := G, B0 := B0, W := W, ec := ec } e t) : PT X e (fun σ H Q => ∃ Cb w bs f' a1 l1 a2 l2 m row ρ B b, LS X.K W ec Cb w bs f' a1 l1 a2 l2 m row ρ B H σ ∧ t ρ = .ok b ∧ ∀ B' H', Ext B H B' H' → LS X.K W ec Cb w bs f' a1 l1 a2 l2 m row ρ B' H' σ → Q b H') :=
  ⟨fun pins s σ H Q I ⟨Cb, w, bs, f', a1, l1, a2, l2, m, row, ρ, B, b, L, e, k⟩ => (h H B).run pins s σ H Q I ⟨ρ, B, L.s, by
    rw [e]
    exact fun B' H' x => k B' H' x (L.ext x)⟩⟩
end
/-- int(a bool) -/
def intB' : PyData → Rs PyData
  | .bool k => .ok (.int (if k then 1 else 0))
  | _ => .no
def dIntB (e : DE) : DE := fun ρ => (e ρ).bind intB'
theorem xe_intB {X : Cx} {C : Cc} {a : Expr} {f : DE} {p pos : Pos} (T : Txs X.mg) (ha : XE X C a f) (hg : Gl X "int" := by rfl) (he : starEach (a :: []) X.env = (false, eval a X.env) :: starEach [] X.env := by rfl) (hpl : (backTo pos (starEach [] X.env)).any (·.1) = false := by rfl) :
    XE X C (.Call (.Name "int" p) [a] [] pos) (dIntB f) :=
  (pe_callTy call_int1 hg T.int (by decide +kernel) (pa_cons ha pa_nil he) (he := he) (hpl := hpl)).imp fun σ H Q ⟨ρ, B, S, h⟩ => ⟨ρ, B, S, bindP h fun d _ h v1 B1 H1 x1 t1 => by
    cases t1 with
    | bl k => exact .inr ⟨k, rfl, h _ B1 H1 x1 (.int _)⟩
    | _ => exact h.elim⟩
end MS

/-! MsB10: what the law's pure pieces compute. -/
namespace MS
open PySem

theorem sSet_of {i : Nat} {e : DE} {ρ : Env} {d : PyData} (he : e ρ = .ok d) : sSet i e ρ = .nx (ρ.set i (.fz d)) := by unfold sSet; rw [he]; rfl
theorem sIf_y {t : DT} {f g : DS} {ρ : Env} (h : t ρ = .ok true) : sIf t f g ρ = f ρ := by unfold sIf; rw [h]; rfl
theorem sIf_n {t : DT} {f g : DS} {ρ : Env} (h : t ρ = .ok false) : sIf t f g ρ = g ρ := by unfold sIf; rw [h]; rfl
theorem sSeq_of {f g : DS} {ρ ρ' : Env} (h : f ρ = .nx ρ') : sSeq f g ρ = g ρ' := by unfold sSeq; rw [h]
abbrev lawE (ns : List Int) (n : Int) (ps : Row) (f0 : List Int) (t a1 a2 : Addr) (ms : List Int) (row : Row) (s8 s9 s10 s11 s12 s13 : Sl) : Env :=
  [.sc ns, .fz (webP n ps), .fz (tupI f0), .bx t, .bx a1, .bx a2, .fz (tupI ms), .fz (rowD row), s8, s9, s10, s11, s12, s13]
section
variable (ns : List Int) (n : Int) (ps : Row) (f0 : List Int) (t a1 a2 : Addr) (ms : List Int) (row : Row) (s8 s9 s10 s11 s12 s13 : Sl)
theorem e9 (k : Int) : sSet 9 (dCall d__law_mix (saCons (bVar 0) (saCons (bOf (dBin opAdd (dC (.int 121)) (dVar 8))) saNil))) (lawE ns n ps f0 t a1 a2 ms row (.fz (.int k)) s9 s10 s11 s12 s13) = .nx (lawE ns n ps f0 t a1 a2 ms row (.fz (.int k)) (.fz (.int (mixZ ns (121 + k)))) s10 s11 s12 s13) :=
  sSet_of (d := .int (mixZ ns (121 + k))) (by simp [law_mix_den])
theorem e10 {m : Int} (h : GoodWeb n m ps) (hm : m ≤ 12) (hg : GoodMarks n ps ms) (hl : ms.length ≤ 50) : sSet 10 (dCall d__law_slides (saCons (bVar 1) (saCons (bVar 6) saNil))) (lawE ns n ps f0 t a1 a2 ms row s8 s9 s10 s11 s12 s13) = .nx (lawE ns n ps f0 t a1 a2 ms row s8 s9 (.fz (rowD (slidesM n ps ms))) s11 s12 s13) :=
  sSet_of (d := rowD (slidesM n ps ms)) (by simp [law_slides_den h hm hg hl]; rfl)
theorem t5 (N : Int) : tCmp cEq (dBin opMod (dVar 9) (dC (.int 5))) (dC (.int 0)) (lawE ns n ps f0 t a1 a2 ms row s8 (.fz (.int N)) s10 s11 s12 s13) = .ok (decide (N % 5 = 0)) := by
  simp [opMod_int _ 5 (by decide)]
theorem tRow : tCmp cNe (dVar 7) (dLst lNil) (lawE ns n ps f0 t a1 a2 ms row s8 s9 s10 s11 s12 s13) = .ok (!decide (row = [])) := by
  have := cNe_row row []
  simp only [tCmp_e, dVar_e, dLst_e, lNil_e, List.getElem?_cons_succ, List.getElem?_cons_zero, Rs.bind_ok]
  exact this
theorem dRow : dT (tCmp cNe (dVar 7) (dLst lNil)) (lawE ns n ps f0 t a1 a2 ms row s8 s9 s10 s11 s12 s13) = .ok (.bool (!decide (row = []))) := by
  rw [dT_e, tRow]
  rfl
theorem cut_init {α : Type} (xs : List α) (x : α) : cutD (xs ++ [x]) none (some (-1)) = xs := by
  unfold cutD sIx
  have : ((-1 : Int) + ((xs ++ [x]).length : Int)).toNat = xs.length := by rw [List.length_append, List.length_singleton]; omega
  simp only [this]
  simp
theorem eBack (r : Row) (x y : Int) (hms : ms.length ≤ 1000) : sIf (tCmp cNe (dVar 7) (dLst lNil))
  (sSeq (sSet 6 (dCall d__law_moved (saCons (bVar 6) (saCons (bOf (dIx (bOf (dIx (bVar 7) (dC (.int (-1))))) (dC (.int 1)))) (saCons (bOf (dIx (bOf (dIx (bVar 7) (dC (.int (-1))))) (dC (.int 0)))) saNil)))))
  (sSet 7 (dSl (dVar 7) oN (oE (dC (.int (-1)))))))
  sNx (lawE ns n ps f0 t a1 a2 ms (r ++ [(x, y)]) s8 s9 s10 s11 s12 s13) = .nx (lawE ns n ps f0 t a1 a2 (movedM ms y x) r s8 s9 s10 s11 s12 s13) := by
  have hmv := moved_den ms y x hms
  have hgl : (r.map prD ++ [prD (x, y)]).getLast? = some (prD (x, y)) := by simp
  refine (sIf_y (by rw [tRow]; simp)).trans ?_
  refine (sSeq_of (sSet_of (d := tupI (movedM ms y x)) ?_)).trans (sSet_of (d := rowD r) ?_)
  · simp [rowD, hgl, prD, law_moved_eq, hmv]
  · have hc : cutD (r.map prD ++ [prD (x, y)]) none (some (-1)) = r.map prD := cut_init _ _
    simp [rowD, slD, hc]
theorem eBackN : sIf (tCmp cNe (dVar 7) (dLst lNil))
  (sSeq (sSet 6 (dCall d__law_moved (saCons (bVar 6) (saCons (bOf (dIx (bOf (dIx (bVar 7) (dC (.int (-1))))) (dC (.int 1)))) (saCons (bOf (dIx (bOf (dIx (bVar 7) (dC (.int (-1))))) (dC (.int 0)))) saNil)))))
  (sSet 7 (dSl (dVar 7) oN (oE (dC (.int (-1)))))))
  sNx (lawE ns n ps f0 t a1 a2 ms [] s8 s9 s10 s11 s12 s13) = .nx (lawE ns n ps f0 t a1 a2 ms [] s8 s9 s10 s11 s12 s13) := sIf_n (by rw [tRow]; rfl)
theorem e11 (N : Int) : ∃ p : Int × Int, sSet 11 (dTup (lCons (dBin opSub (dBin opMod (dBin opDiv (dVar 9) (dC (.int 8))) (dC (.int 8))) (dC (.int 1))) (lCons (dBin opSub (dBin opMod (dBin opDiv (dVar 9) (dC (.int 64))) (dC (.int 8))) (dC (.int 1))) lNil))) (lawE ns n ps f0 t a1 a2 ms row s8 (.fz (.int N)) s10 s11 s12 s13) = .nx (lawE ns n ps f0 t a1 a2 ms row s8 (.fz (.int N)) s10 (.fz (prD p)) s12 s13) :=
  ⟨(N / 8 % 8 - 1, N / 64 % 8 - 1), sSet_of (d := prD (N / 8 % 8 - 1, N / 64 % 8 - 1)) (by simp [opMod_int _ 8 (by decide), opDiv_int _ 8 (by decide), opDiv_int _ 64 (by decide), prD])⟩
theorem e11b (N : Int) (hN : 0 ≤ N) (sl : Row) (hsl : sl.length < 1000000) (p : Int × Int) : ∃ p' : Int × Int, sIf (tAnd (tCmp cGt (dBin opMod (dVar 9) (dC (.int 5))) (dC (.int 1))) (tCmp cNe (dVar 10) (dLst lNil)))
  (sSet 11 (dIx (bVar 10) (dBin opMod (dBin opDiv (dVar 9) (dC (.int 8))) (dLen (bVar 10)))))
  sNx (lawE ns n ps f0 t a1 a2 ms row s8 (.fz (.int N)) (.fz (rowD sl)) (.fz (prD p)) s12 s13) = .nx (lawE ns n ps f0 t a1 a2 ms row s8 (.fz (.int N)) (.fz (rowD sl)) (.fz (prD p')) s12 s13) := by
  have hc : cNe (rowD sl) (.list []) = .ok (!decide (sl = [])) := cNe_row sl []
  have ht : tAnd (tCmp cGt (dBin opMod (dVar 9) (dC (.int 5))) (dC (.int 1))) (tCmp cNe (dVar 10) (dLst lNil)) (lawE ns n ps f0 t a1 a2 ms row s8 (.fz (.int N)) (.fz (rowD sl)) (.fz (prD p)) s12 s13) = .ok (decide (1 < N % 5) && !decide (sl = [])) := by
    simp only [tAnd_e, tCmp_e, dBin_e, dVar_e, dC_e, dLst_e, lNil_e, List.getElem?_cons_succ, List.getElem?_cons_zero, Rs.bind_ok, opMod_int _ 5 (by decide), cGt_int, hc]
    cases decide (1 < N % 5) <;> rfl
  cases hb : (decide (1 < N % 5) && !decide (sl = [])) with
  | false => rw [hb] at ht; exact ⟨p, sIf_n ht⟩
  | true =>
    rw [hb] at ht
    have hne : sl ≠ [] := by
      rintro rfl
      simp at hb
    have hpos : 0 < (sl.length : Int) := by
      have := List.length_pos_iff.mpr hne
      omega
    have h0 : 0 ≤ N / 8 % (sl.length : Int) := Int.emod_nonneg _ (by omega)
    have h1 : N / 8 % (sl.length : Int) < sl.length := Int.emod_lt_of_pos _ hpos
    have hi : (N / 8 % (sl.length : Int)).toNat < sl.length := by omega
    have hg : atD (sl.map prD) (N / 8 % (sl.length : Int)) = some (prD sl[(N / 8 % (sl.length : Int)).toNat]) := by
      rw [atD_pos _ _ h0, List.getElem?_map, List.getElem?_eq_getElem hi]
      rfl
    refine ⟨sl[(N / 8 % (sl.length : Int)).toNat], (sIf_y ht).trans (sSet_of (d := prD sl[(N / 8 % (sl.length : Int)).toNat]) ?_)⟩
    simp only [rowD, dIx_e, bVar_e, dBin_e, dVar_e, dC_e, dLen_e, lenS_l, List.length_map, List.getElem?_cons_succ, List.getElem?_cons_zero, Rs.bind_ok, opDiv_int _ 8 (by decide), opMod_int _ _ hpos, ixS_l, hg, ofO_some]
theorem eIn (sl : Row) (p : Int × Int) : tIn (dVar 11) (bVar 10) (lawE ns n ps f0 t a1 a2 ms row s8 s9 (.fz (rowD sl)) (.fz (prD p)) s12 s13) = .ok (decide (p ∈ sl)) := by
  have := cIn_pr p sl
  simp only [tIn_e, dVar_e, bVar_e, List.getElem?_cons_succ, List.getElem?_cons_zero, Rs.bind_ok]
  exact this
theorem eWord (sl : Row) (p : Int × Int) : dIx (bOf (dLst (lCons (dC (.str "slide")) (lCons (dC (.str "ok")) lNil)))) (dIntB (dT (tIn (dVar 11) (bVar 10)))) (lawE ns n ps f0 t a1 a2 ms row s8 s9 (.fz (rowD sl)) (.fz (prD p)) s12 s13) = .ok (.str (if p ∈ sl then "ok" else "slide")) := by
  have h : dIntB (dT (tIn (dVar 11) (bVar 10))) (lawE ns n ps f0 t a1 a2 ms row s8 s9 (.fz (rowD sl)) (.fz (prD p)) s12 s13) = .ok (.int (if p ∈ sl then 1 else 0)) := by
    unfold dIntB
    rw [dT_e, eIn]
    by_cases q : p ∈ sl <;> simp [q, intB']
  rw [dIx_e, h]
  by_cases q : p ∈ sl <;> simp [q]
theorem eDo (sl : Row) (x y : Int) (hms : ms.length ≤ 1000) (hrow : row.length < 1000) : sIf (tIn (dVar 11) (bVar 10))
  (sSeq (sSet 6 (dCall d__law_moved (saCons (bVar 6) (saCons (bOf (dIx (bVar 11) (dC (.int 0)))) (saCons (bOf (dIx (bVar 11) (dC (.int 1)))) saNil)))))
  (sSet 7 (dBin opAdd (dVar 7) (dLst (lCons (dVar 11) lNil)))))
  sNx (lawE ns n ps f0 t a1 a2 ms row s8 s9 (.fz (rowD sl)) (.fz (prD (x, y))) s12 s13) = .nx (if (x, y) ∈ sl then lawE ns n ps f0 t a1 a2 (movedM ms x y) (row ++ [(x, y)]) s8 s9 (.fz (rowD sl)) (.fz (prD (x, y))) s12 s13 else lawE ns n ps f0 t a1 a2 ms row s8 s9 (.fz (rowD sl)) (.fz (prD (x, y))) s12 s13) := by
  by_cases q : (x, y) ∈ sl
  · rw [if_pos q]
    have hmv := moved_den ms x y hms
    refine (sIf_y (by rw [eIn, decide_eq_true q])).trans ?_
    refine (sSeq_of (sSet_of (d := tupI (movedM ms x y)) ?_)).trans (sSet_of (d := rowD (row ++ [(x, y)])) ?_)
    · simp [prD, law_moved_eq, hmv]
    · have : opAdd (rowD row) (.list [prD (x, y)]) = .ok (rowD (row ++ [(x, y)])) := by
        unfold rowD
        rw [List.map_append]
        exact if_pos (show (row.map prD).length + 1 ≤ 1000000 by rw [List.length_map]; omega)
      simp [this]
  · rw [if_neg q]
    exact sIf_n (by rw [eIn, decide_eq_false q])
end
theorem row_good {n m : Int} {ps : Row} (h : GoodWeb n m ps) : ∀ {r : Row} {ms : List Int}, GoodMarks n ps ms → RowOk ps ms r → GoodMarks n ps (endM ms r) ∧ (endM ms r).length = ms.length
  | [], _, hg, _ => ⟨hg, rfl⟩
  | p :: r, ms, hg, hr => by
    obtain ⟨h1, h2⟩ := hr
    obtain ⟨h3, h4⟩ := row_good h (slide_good h hg h1) h2
    exact ⟨h3, h4.trans (moved_length hg.1 h1.1)⟩
end MS

/-! MsB11: a turn of the law's loop. -/
namespace MS
open PySem L2 PyProof.Rows

abbrev sLaw : Stmt := top 36
abbrev NL : List Str := ["_law_script", "_law_web_here", "_law_first", "_law_handed", "_law_board", "_law_beside", "_law_marks_here", "_law_row", "_law_k", "_law_number", "_law_some", "_law_slide", "_law_goal", "_law_due"]
theorem scLaw : FnScope NL ["_law_script"] (defScope sLaw) := ⟨rfl, rfl, rfl, by decide +kernel, rfl, by decide +kernel, by decide +kernel⟩
def forBody : Stmt → List Stmt
  | .For _ _ b _ _ => b
  | _ => []
abbrev turnB : List Stmt := forBody ((defBody sLaw).getD 8 (.Pass ⟨0, 0, 0, 0⟩))
/-- the law's state at a turn -/
def LW (K : PySem.W.Frag) (W : WX) (ec : MS.XK → Addr) (Cb : Addr) (ns : List Int) (n : Int) (ps : Row) (f0 : List Int) (t a1 l1 a2 l2 : Addr) (row : Row) (s8 s9 s10 s11 : Sl) (B H : Hp) (σ : L2.St) : Prop :=
  LS K W ec Cb (webP n ps) (besD (nbr ps) n.toNat) (tupI f0) a1 l1 a2 l2 (tupI (endM f0 row)) (row.map prD) (lawE ns n ps f0 t a1 a2 (endM f0 row) row s8 s9 s10 s11 .nil .nil) B H σ
theorem noOwn_set {ρ : Env} (i : Nat) {s : Sl} (h : noOwn ρ = true) (hs : s.own = false) : noOwn (ρ.set i s) = true := by
  refine List.all_eq_true.mpr fun u hu => ?_
  rcases List.mem_or_eq_of_mem_set hu with q | q
  · exact List.all_eq_true.mp h u q
  · subst q; rw [hs]; rfl
section
variable {P : Program} {w : World} {K : PySem.W.Frag} {mg : Str → Option Value} {base : Heap} {ec : MS.XK → Addr} {CS Cb : Addr}
theorem law_same_st (T : Bcl K mg Cb) {f : Addr} {cdv : Value} {A : Around} {outer : List PySem.Env} {s : Shared} {H0 : Hp} {E : L2.XK} (hr : Room 7 (A.deeper (envOfC "law" (defScope sLaw) s.heap.objs.size f cdv)))
    (FSa : FnS P w K mg base "_law_same" ["_law_board", "_law_web_here", "_law_marks_here", "_law_row"] 5 (spSame Cb)) :
    PS (cxOf (L2.CX P w) P w K mg base NL "law" (defScope sLaw) f cdv A outer s H0 E) (turnB.getD 3 (.Pass ⟨0, 0, 0, 0⟩)) (fun D σ H => ∃ (ns : List Int) (n : Int) (ps : Row) (f0 : List Int) (t a1 l1 a2 l2 : Addr) (row : Row) (s8 s9 s10 s11 : Sl) (B : Hp), GoodWeb n 6 ps ∧ GoodMarks n ps f0 ∧ f0.length ≤ 3 ∧ RowOk ps f0 row ∧ row.length < 1000 ∧
      LW K (fun cls d _ H' => E cls d H') ec Cb ns n ps f0 t a1 l1 a2 l2 row s8 s9 s10 s11 B H σ ∧
      ∀ B' H', LW K (fun cls d _ H' => E cls d H') ec Cb ns n ps f0 t a1 l1 a2 l2 row s8 s9 s10 s11 B' H' σ → D.nx σ H') := by
  have tk : Takes (cxOf (L2.CX P w) P w K mg base NL "law" (defScope sLaw) f cdv A outer s H0 E) (fun cls d _ H' => E cls d H') := takes_of rfl rfl rfl rfl
  refine (ps_if (pt_not (pt_truth (pe_fnS FSa (hr.mono (by decide)) tk (pa_cons (pv 4) (pa_cons (pv 1) (pa_cons (pv 6) (pa_cons (pv 7) pa_nil))))) (by intro _; rfl))) (pss_one (ps_ret pe_bl)) pss_nil).imp ?_
  rintro D σ H ⟨ns, n, ps, f0, t, a1, l1, a2, l2, row, s8, s9, s10, s11, B, hw, hg0, hl0, hrow, hlen, L, post⟩
  obtain ⟨hg, hlm⟩ := row_good hw hg0 hrow
  have hsl : (slidesM n ps (endM f0 row)).length ≤ 50000 := sl_len hw.2.2.2.2 (by omega)
  obtain ⟨v1, i1, t1⟩ := L.fz 1 rfl
  obtain ⟨v6, i6, t6⟩ := L.fz 6 rfl
  obtain ⟨v7, i7, t7⟩ := L.fz 7 rfl
  refine ⟨.ref a1, L.bx 4 rfl, v1, i1, v6, i6, v7, i7, ?_⟩
  refine ⟨a1, l1, B, v1, v6, v7, webP n ps, webP n ps, besD (nbr ps) n.toNat, tupI (endM f0 row), tupI (endM f0 row), rowD (slidesM n ps (endM f0 row)), rowD row, row.map prD, (slidesM n ps (endM f0 row)).map prD, rfl, L.sm, L.b1, t1, t6, t7,
    cNe_self (sh_tupI _), slRun_of hw (by decide) hg.2.1 (by omega), law_slides_den hw (by decide) hg (by omega), cNe_self (sh_row _), cNe_self (sh_row _), by rw [List.length_map]; omega, by rw [List.length_map]; exact hlen, fun B' H' x => ?_⟩
  refine ⟨true, rfl, ite_no ?_⟩
  exact post B' H' (L.ext x)
theorem law_turn (T : Bcl K mg Cb) (Tx' : Txs mg) (Z : Tx K mg ec CS) {f : Addr} {cdv : Value} {A : Around} {outer : List PySem.Env} {s : Shared} {H0 : Hp} {E : L2.XK} (hr : Room 7 (A.deeper (envOfC "law" (defScope sLaw) s.heap.objs.size f cdv)))
    (F__law_mix : Fn P w K mg base ec "_law_mix" ["_law_script", "_law_k"] 2 d__law_mix) (F__law_slides : Fn P w K mg base ec "_law_slides" ["_law_web_here", "_law_marks_here"] 2 d__law_slides) (F__law_moved : Fn P w K mg base ec "_law_moved" ["_law_marks_here", "_law_one", "_law_other"] 1 d__law_moved)
    (MB : MtS P w K mg base Cb "back" ["self"] 2 (spBack Cb)) (FSl : FnS P w K mg base "_law_slid" ["_law_board", "_law_one", "_law_other"] 6 (spSlid Cb)) (FSa : FnS P w K mg base "_law_same" ["_law_board", "_law_web_here", "_law_marks_here", "_law_row"] 5 (spSame Cb)) :
    PSs (cxOf (L2.CX P w) P w K mg base NL "law" (defScope sLaw) f cdv A outer s H0 E) turnB (fun D σ H => ∃ (ns : List Int) (n : Int) (ps : Row) (f0 : List Int) (t a1 l1 a2 l2 : Addr) (row : Row) (k : Int) (s9 s10 s11 : Sl) (B : Hp), GoodWeb n 6 ps ∧ GoodMarks n ps f0 ∧ f0.length ≤ 3 ∧ RowOk ps f0 row ∧ row.length < 100 ∧
      LW K (fun cls d _ H' => E cls d H') ec Cb ns n ps f0 t a1 l1 a2 l2 row (.fz (.int k)) s9 s10 s11 B H σ ∧
      ∀ σ' B' H' row' s9' s10' s11', RowOk ps f0 row' → row'.length ≤ row.length + 1 → LW K (fun cls d _ H' => E cls d H') ec Cb ns n ps f0 t a1 l1 a2 l2 row' (.fz (.int k)) s9' s10' s11' B' H' σ' → D.nx σ' H') := by
  have nd := scLaw.nd
  have tk : Takes (cxOf (L2.CX P w) P w K mg base NL "law" (defScope sLaw) f cdv A outer s H0 E) (fun cls d _ H' => E cls d H') := takes_of rfl rfl rfl rfl
  refine (pss_cons (ls_ps (W := fun cls d _ H' => E cls d H') (ec := ec) (g := sSet 9 (dCall d__law_mix (saCons (bVar 0) (saCons (bOf (dBin opAdd (dC (.int 121)) (dVar 8))) saNil)))) fun G B0 => xs_set 9 nd (xe_call F__law_mix (hr.mono (by decide)) (xs_cons (xb_var 0) (xs_cons (xb_of (xe_add xe_int (xe_var 8))) xs_nil)) (hn := (sa_len (sa_len sa_len0)))))
    (pss_cons (ls_ps (W := fun cls d _ H' => E cls d H') (ec := ec) fun G B0 => xs_set 10 nd (xe_call F__law_slides (hr.mono (by decide)) (xs_cons (xb_var 1) (xs_cons (xb_var 6) xs_nil)) (hn := (sa_len (sa_len sa_len0)))))
    (pss_cons (ps_if (ls_pt (W := fun cls d _ H' => E cls d H') (ec := ec) fun G B0 => xt_cmp (cm_eq hr) (xe_mod (xe_var 9) xe_int) xe_int)
      (pss_cons (ps_if (pt_cmpR (cm_ne hr).op (pe_mtS0 MB T.cl (hr.mono (by decide)) tk (pv 4)) (ls_pe (W := fun cls d _ H' => E cls d H') (ec := ec) fun G B0 => xe_cmp (cm_ne hr) (xe_var 7) (xe_lst (xl_lst xa_nil))) (nomark _)) (pss_one (ps_ret pe_bl)) pss_nil)
        (pss_one (ls_ps (W := fun cls d _ H' => E cls d H') (ec := ec) fun G B0 => xs_if (xt_cmp (cm_ne hr) (xe_var 7) (xe_lst (xl_lst xa_nil)))
  (xss_cons (xs_set 6 nd (xe_call F__law_moved (hr.mono (by decide)) (xs_cons (xb_var 6) (xs_cons (xb_of (xe_ix (xb_of (xe_ix (xb_var 7) xe_neg)) xe_int)) (xs_cons (xb_of (xe_ix (xb_of (xe_ix (xb_var 7) xe_neg)) xe_int)) xs_nil))) (hn := (sa_len (sa_len (sa_len sa_len0))))))
  (xss_one (xs_set 7 nd (xe_sl (xe_var 7) xo_n (xo_e xe_neg)))))
  xss_nil)))
      (pss_cons (ls_ps (W := fun cls d _ H' => E cls d H') (ec := ec) fun G B0 => xs_set 11 nd (xe_tup (xa_cons (xe_sub (xe_mod (xe_div (xe_var 9) xe_int) xe_int) xe_int) (xa_cons (xe_sub (xe_mod (xe_div (xe_var 9) xe_int) xe_int) xe_int) xa_nil))))
        (pss_cons (ls_ps (W := fun cls d _ H' => E cls d H') (ec := ec) fun G B0 => xs_if (xt_w (xw_and (xt_cmp cm_gt (xe_mod (xe_var 9) xe_int) xe_int) (xw_and1 (xt_cmp (cm_ne hr) (xe_var 10) (xe_lst (xl_lst xa_nil))))))
  (xss_one (xs_set 11 nd (xe_ix (xb_var 10) (xe_mod (xe_div (xe_var 9) xe_int) (xe_len Tx' (xb_var 10))))))
  xss_nil)
        (pss_cons (ps_if (pt_cmpR (cm_ne hr).op (pe_fnS FSl (hr.mono (by decide)) tk (pa_cons (pv 4) (pa_cons (ls_pe (W := fun cls d _ H' => E cls d H') (ec := ec) fun G B0 => xe_ix (xb_var 11) xe_int) (pa_cons (ls_pe (W := fun cls d _ H' => E cls d H') (ec := ec) fun G B0 => xe_ix (xb_var 11) xe_int) pa_nil)))) (ls_pe (W := fun cls d _ H' => E cls d H') (ec := ec) fun G B0 => xe_ix (xb_of (xe_lst (xl_lst (xa_cons xe_str (xa_cons xe_str xa_nil))))) (xe_intB Tx' (xe_cin hr (xe_var 11) (xb_var 10) rfl))) (nomark _)) (pss_one (ps_ret pe_bl)) pss_nil)
        (pss_one (ls_ps (W := fun cls d _ H' => E cls d H') (ec := ec) fun G B0 => xs_if (xt_cin hr (xe_var 11) (xb_var 10) rfl)
  (xss_cons (xs_set 6 nd (xe_call F__law_moved (hr.mono (by decide)) (xs_cons (xb_var 6) (xs_cons (xb_of (xe_ix (xb_var 11) xe_int)) (xs_cons (xb_of (xe_ix (xb_var 11) xe_int)) xs_nil))) (hn := (sa_len (sa_len (sa_len sa_len0))))))
  (xss_one (xs_set 7 nd (xe_add (xe_var 7) (xe_lst (xl_lst (xa_cons (xe_var 11) xa_nil)))))))
  xss_nil))))))
    (pss_one (law_same_st (ec := ec) T hr FSa))))).imp ?_
  rintro D σ H ⟨ns, n, ps, f0, t, a1, l1, a2, l2, row, k, s9, s10, s11, B, hw, hg0, hl0, hrow, hlen, L, post⟩
  obtain ⟨hg, hlm⟩ := row_good hw hg0 hrow
  have hms : (endM f0 row).length ≤ 50 := by omega
  have hms' : (endM f0 row).length ≤ 1000 := by omega
  have hN := mixZ_nn ns (121 + k)
  have hsl : (slidesM n ps (endM f0 row)).length ≤ 50000 := sl_len hw.2.2.2.2 (by omega)
  refine ⟨_, _, _, _, _, _, _, _, _, _, _, _, _, L, e9 .., noOwn_set 9 L.no rfl, fun σ1 B1 H1 L1 => ?_⟩
  refine ⟨_, _, _, _, _, _, _, _, _, _, _, _, _, L1, e10 (h := hw) (hm := by decide) (hg := hg) (hl := hms) .., noOwn_set 10 L1.no rfl, fun σ2 B2 H2 L2' => ?_⟩
  generalize mixZ ns (121 + k) = N at hN L2'
  refine ⟨_, _, _, _, _, _, _, _, _, _, _, _, _, L2', t5 .., fun B3 H3 x3 L3 => ?_⟩
  by_cases q5 : N % 5 = 0
  · rw [decide_eq_true q5]
    refine ite_yes ?_
    obtain ⟨dx, vW, vB, vH, h1, _⟩ := id L3.b1.ins
    refine ⟨.ref a1, L3.bx 4 rfl, a1, dx, _, rfl, h1, bf_no vW vB vH l1 (by decide +kernel) (by decide +kernel) (by decide +kernel) (by decide +kernel), ?_⟩
    refine ⟨a1, l1, B3, _, _, _, row, rfl, L3.sm, L3.b1, fun hnil B4 H4 x4 => ?_, fun r x y hrr => ?_⟩
    · subst hnil
      have L4 := L3.ext x4
      refine ⟨_, _, _, _, _, _, _, _, _, _, _, _, .bool false, L4, dRow .., fun v B5 H5 x5 L5 tv => ?_⟩
      cases tv
      refine ⟨B5, .bool false, .bool false, false, L5.sm, .bl _, .bl _, rfl, false, rfl, ite_no ?_⟩
      refine ⟨_, _, _, _, _, _, _, _, _, _, _, _, _, L5, eBackN .., L5.no, fun σ6 B6 H6 L6 => ?_⟩
      exact ⟨ns, n, ps, f0, t, a1, l1, a2, l2, [], _, _, _, _, B6, hw, hg0, hl0, hrow, by decide, L6, fun B7 H7 L7 => post σ6 B7 H7 [] _ _ _ hrow (Nat.le_succ _) L7⟩
    · subst hrr
      obtain ⟨hr1, hS⟩ := rowOk_snoc.mp hrow
      obtain ⟨hgr, hlr⟩ := row_good hw hg0 hr1
      have hund : movedM (endM f0 (r ++ [(x, y)])) y x = endM f0 r := by
        rw [endM_snoc]
        exact undo hgr.1 hS.1 hS.2.2.1
      have hmd := moved_den (endM f0 (r ++ [(x, y)])) y x hms'
      rw [hund] at hmd
      refine ⟨tupI (endM f0 r), hmd, fun B4 H4 x4 b4 => ?_⟩
      have L4 := L3.extM x4 b4
      have hd : dT (tCmp cNe (dVar 7) (dLst lNil)) (lawE ns n ps f0 t a1 a2 (endM f0 (r ++ [(x, y)])) (r ++ [(x, y)]) (.fz (.int k)) (.fz (.int N)) (.fz (rowD (slidesM n ps (endM f0 (r ++ [(x, y)]))))) s11 .nil .nil) = .ok (.bool true) := by
        rw [dRow]
        simp
      refine ⟨_, _, _, _, _, _, _, _, _, _, _, _, .bool true, L4, hd, fun v B5 H5 x5 L5 tv => ?_⟩
      cases tv
      refine ⟨B5, .bool true, .bool true, false, L5.sm, .bl _, .bl _, rfl, false, rfl, ite_no ?_⟩
      have eB := eBack ns n ps f0 t a1 a2 (endM f0 (r ++ [(x, y)])) (.fz (.int k)) (.fz (.int N)) (.fz (rowD (slidesM n ps (endM f0 (r ++ [(x, y)]))))) s11 .nil .nil r x y hms'
      rw [hund] at eB
      refine ⟨_, _, _, _, _, _, _, _, _, _, _, _, _, L5, eB, noOwn_set 7 (noOwn_set 6 L5.no (s := .fz (tupI (endM f0 r))) rfl) (s := .fz (rowD r)) rfl, fun σ6 B6 H6 L6 => ?_⟩
      rw [List.length_append] at hlen
      exact ⟨ns, n, ps, f0, t, a1, l1, a2, l2, r, _, _, _, _, B6, hw, hg0, hl0, hr1, by omega, L6, fun B7 H7 L7 => post σ6 B7 H7 r _ _ _ hr1 (by rw [List.length_append]; omega) L7⟩
  · rw [decide_eq_false q5]
    refine ite_no ?_
    obtain ⟨p0, ep0⟩ := e11 ns n ps f0 t a1 a2 (endM f0 row) row (.fz (.int k)) (.fz (rowD (slidesM n ps (endM f0 row)))) s11 .nil .nil N
    refine ⟨_, _, _, _, _, _, _, _, _, _, _, _, _, L3, ep0, noOwn_set 11 L3.no (s := .fz (prD p0)) rfl, fun σ4 B4 H4 L4 => ?_⟩
    obtain ⟨⟨x, y⟩, ep1⟩ := e11b ns n ps f0 t a1 a2 (endM f0 row) row (.fz (.int k)) .nil .nil N hN (slidesM n ps (endM f0 row)) (by omega) p0
    refine ⟨_, _, _, _, _, _, _, _, _, _, _, _, _, L4, ep1, noOwn_set 11 L4.no (s := .fz (prD (x, y))) rfl, fun σ5 B5 H5 L5 => ?_⟩
    refine ⟨.ref a1, L5.bx 4 rfl, _, _, _, _, _, _, _, _, _, _, _, _, .int x, L5, rfl, fun v1 B6 H6 x6 L6 tv1 => ?_⟩
    cases tv1
    refine ⟨_, _, _, _, _, _, _, _, _, _, _, _, .int y, L6, rfl, fun v2 B7 H7 x7 L7 tv2 => ?_⟩
    cases tv2
    have hmd := moved_den (endM f0 row) x y hms'
    refine ⟨a1, l1, x, y, B7, _, _, _, row, slidesM n ps (endM f0 row), rfl, L7.sm, L7.b1, slRun_of hw (by decide) hg.2.1 (by omega), by omega, fun q => ⟨_, hmd, fun B8 H8 x8 b8 => ?_⟩, fun q B8 H8 x8 => ?_⟩
    · have L8 := L7.extM x8 b8
      have eW := eWord ns n ps f0 t a1 a2 (endM f0 row) row (.fz (.int k)) (.fz (.int N)) .nil .nil (slidesM n ps (endM f0 row)) (x, y)
      rw [if_pos q] at eW
      refine ⟨_, _, _, _, _, _, _, _, _, _, _, _, _, L8, eW, fun v B9 H9 x9 L9 tv => ?_⟩
      cases tv
      refine ⟨B9, .str "ok", .str "ok", false, L9.sm, .str _, .str _, cNe_self (sh_str "ok" (by decide +kernel)), false, rfl, ite_no ?_⟩
      have eD := eDo ns n ps f0 t a1 a2 (endM f0 row) row (.fz (.int k)) (.fz (.int N)) .nil .nil (slidesM n ps (endM f0 row)) x y hms' (by omega)
      rw [if_pos q, ← endM_snoc f0 row (x, y)] at eD
      have hr' : RowOk ps f0 (row ++ [(x, y)]) := rowOk_snoc.mpr ⟨hrow, (slides_mem hw hg).mp q⟩
      refine ⟨_, _, _, _, _, _, _, _, _, _, _, _, _, L9, eD, noOwn_set 7 (noOwn_set 6 L9.no (s := .fz (tupI (endM f0 (row ++ [(x, y)])))) rfl) (s := .fz (rowD (row ++ [(x, y)]))) rfl, fun σ6 B10 H10 L10 => ?_⟩
      have hl' : (row ++ [(x, y)]).length = row.length + 1 := by rw [List.length_append, List.length_singleton]
      exact ⟨ns, n, ps, f0, t, a1, l1, a2, l2, row ++ [(x, y)], _, _, _, _, B10, hw, hg0, hl0, hr', by omega, by unfold LW; rw [endM_snoc]; rw [endM_snoc] at L10; exact L10, fun B7 H7 L7 => post σ6 B7 H7 _ _ _ _ hr' (by omega) L7⟩
    · have L8 := L7.ext x8
      have eW := eWord ns n ps f0 t a1 a2 (endM f0 row) row (.fz (.int k)) (.fz (.int N)) .nil .nil (slidesM n ps (endM f0 row)) (x, y)
      rw [if_neg q] at eW
      refine ⟨_, _, _, _, _, _, _, _, _, _, _, _, _, L8, eW, fun v B9 H9 x9 L9 tv => ?_⟩
      cases tv
      refine ⟨B9, .str "slide", .str "slide", false, L9.sm, .str _, .str _, cNe_self (sh_str "slide" (by decide +kernel)), false, rfl, ite_no ?_⟩
      have eD := eDo ns n ps f0 t a1 a2 (endM f0 row) row (.fz (.int k)) (.fz (.int N)) .nil .nil (slidesM n ps (endM f0 row)) x y hms' (by omega)
      rw [if_neg q] at eD
      refine ⟨_, _, _, _, _, _, _, _, _, _, _, _, _, L9, eD, L9.no, fun σ6 B10 H10 L10 => ?_⟩
      exact ⟨ns, n, ps, f0, t, a1, l1, a2, l2, row, _, _, _, _, B10, hw, hg0, hl0, hrow, by omega, L10, fun B7 H7 L7 => post σ6 B7 H7 _ _ _ _ hrow (by omega) L7⟩
end
end MS

/-! MsB12: a board made from a list that is handed; the due answer. -/
namespace MS
open PySem L2 PyProof.Rows

theorem same_put {B H : Hp} {c : Addr} {o : HO} (s : Same B H) (h : H c = some o) : Same B (upd B c o) ∧ Same (upd B c o) H := by
  refine ⟨fun d u e => ?_, fun d u e => ?_⟩
  · by_cases q : d = c
    · subst q
      have := s _ _ e
      rw [h] at this
      rw [upd_same]
      exact this
    · rw [upd_ne q]; exact e
  · by_cases q : d = c
    · subst q
      rw [upd_same] at e
      rw [h]
      exact e
    · rw [upd_ne q] at e; exact s _ _ e
theorem BdAt.grow {Cb : Addr} {B H B' H' : Hp} {a l : Addr} {w bs hr : PyData} {old : List PyData} (b : BdAt Cb B H a l w bs hr old) (h : Same H H') (sb : Same B B') (sm : Same B' H') (n : ∀ c o, B' c = some o → B c = some o ∨ H c = none ∨ ∃ xs, o = .tup xs) : BdAt Cb B' H' a l w bs hr old := by
  obtain ⟨⟨dx, vw, vb, vh, h1, h2, h3, h4⟩, ⟨xs, g1, g2⟩, na, nl⟩ := b
  refine ⟨⟨dx, vw, vb, vh, h _ _ h1, h2.on sb, h3.on sb, h4.on sb⟩, ⟨xs, h _ _ g1, g2.on sb⟩, ?_, ?_⟩
  · cases e : B' a with
    | none => rfl
    | some o =>
      rcases n a o e with q | q | ⟨ys, rfl⟩
      · rw [na] at q; cases q
      · rw [h1] at q; cases q
      · have := sm _ _ e
        rw [h _ _ h1] at this
        cases this
  · cases e : B' l with
    | none => rfl
    | some o =>
      rcases n l o e with q | q | ⟨ys, rfl⟩
      · rw [nl] at q; cases q
      · rw [g1] at q; cases q
      · have := sm _ _ e
        rw [h _ _ g1] at this
        cases this
theorem BdAt.put {Cb : Addr} {B H : Hp} {a l q : Addr} {o : HO} {w bs hr : PyData} {old : List PyData} (b : BdAt Cb B H a l w bs hr old) (na : a ≠ q) (nl : l ≠ q) : BdAt Cb B (upd H q o) a l w bs hr old := by
  obtain ⟨⟨dx, vw, vb, vh, h1, h2, h3, h4⟩, ⟨xs, g1, g2⟩, nA, nL⟩ := b
  exact ⟨⟨dx, vw, vb, vh, by rw [upd_ne na]; exact h1, h2, h3, h4⟩, ⟨xs, by rw [upd_ne nl]; exact g1, g2⟩, nA, nL⟩
/-- making a board is well where its web and its marks are -/
theorem mk_board {Cb : Addr} {ec : MS.XK → Addr} {B H : Hp} {x dx t q : Addr} {us : List V} {n : Int} {ps : Row} {vm : V} {m bs : PyData} {R : Hp → Prop} {E : L2.XK} (sm : Same B H) (ht : H t = some (.tup [.int n, .ref q])) (hq : H q = some (.lst us)) (hu : DtAll B us (ps.map prD)) (tm : Dt B vm m)
    (hl : d_look_marks [.fz (webD n ps), .fz m] = .ok .none) (hn : NearRun n ps bs) (hx : H x = none) (hdx : H dx = none) (ne : dx ≠ x)
    (post : ∀ B' H' l, Same H H' → Same B B' → (∀ c o, B' c = some o → B c = some o ∨ H c = none ∨ ∃ xs, o = .tup xs) → Same B' H' → H l = none → BdAt Cb B' H' x l (webD n ps) bs m [] → R H') :
    spInit Cb ec [.ref x, .ref t, vm] (upd (upd H dx (.own x)) x (.ins Cb dx [])) (fun v H2 => v = .non ∧ R H2) E := by
  have up : ∀ c o, H c = some o → c ≠ x ∧ upd (upd H dx (.own x)) x (.ins Cb dx []) c = some o := fun c o e => by
    have n1 : c ≠ x := ne_of_none e hx
    have n2 : c ≠ dx := ne_of_none e hdx
    exact ⟨n1, by rw [upd_ne n1, upd_ne n2]; exact e⟩
  have dn : ∀ c, upd (upd H dx (.own x)) x (.ins Cb dx []) c = none → H c = none := fun c e => by
    cases e2 : H c with
    | none => rfl
    | some o => rw [(up c o e2).2] at e; cases e
  obtain ⟨s1, s2⟩ := same_put sm hq
  obtain ⟨s3, s4⟩ := same_put s2 ht
  have ntq : q ≠ t := by rintro rfl; rw [ht] at hq; cases hq
  refine .inr ⟨x, dx, t, q, us, B, upd (upd B q (.lst us)) t (.tup [.int n, .ref q]), n, ps, vm, m, bs, rfl, upd_same, ?_, fun c o e => (up c o (s4 _ _ e)).2, s1.trans s3, upd_same, by rw [upd_ne ntq, upd_same], hu, tm, hl, hn, fun B' H' l c1 c2 c3 c4 c5 b => ⟨rfl, ?_⟩⟩
  · cases e : upd (upd B q (.lst us)) t (.tup [.int n, .ref q]) x with
    | none => rfl
    | some o =>
      have := s4 _ _ e
      rw [hx] at this
      cases this
  · refine post B' H' l (fun c o e => c1 c o (up c o e).1 (up c o e).2) c2 (fun c o e => ?_) c4 (dn _ c5) b
    rcases c3 c o e with z | z | z
    · exact .inl z
    · exact .inr (.inl (dn _ z))
    · exact .inr (.inr z)
/-! ### what is due -/
def gDue : DS := sSet 13 (dIf (tCmp cEq (dLen (bVar 12)) (dLen (bVar 6))) (dCall d_told (saCons (bVar 1) (saCons (bVar 6) (saCons (bVar 12) saNil)))) (dC (.str "unlike")))
theorem due_at {ns : List Int} {n m : Int} {ps : Row} {f0 : List Int} {t a1 a2 : Addr} {ms g : List Int} {row : Row} {s8 s9 s10 s11 s13 : Sl} (h : GoodWeb n m ps) (hm : m ≤ 12) (hg : GoodMarks n ps ms) (hl : ms.length ≤ 4) (hgg : GoodMarks n ps g) (hgl : g.length ≤ 4) :
    ∃ d, gDue (lawE ns n ps f0 t a1 a2 ms row s8 s9 s10 s11 (.fz (tupI g)) s13) = .nx (lawE ns n ps f0 t a1 a2 ms row s8 s9 s10 s11 (.fz (tupI g)) (.fz d)) ∧ shN 5 d ∧
      (d_told [.fz (webP n ps), .fz (tupI ms), .fz (tupI g)] = .ok d ∨ d_told [.fz (webP n ps), .fz (tupI ms), .fz (tupI g)] = .er .unlike ∧ d = .str "unlike") := by
  have hc : cEq (.int g.length) (.int ms.length) = .ok (decide ((g.length : Int) = ms.length)) := by simp
  by_cases q : g.length = ms.length
  · obtain ⟨d, e, sh⟩ := told_same h hm hg hl hgg q
    refine ⟨d, sSet_of (d := d) ?_, sh, .inl e⟩
    have : decide ((g.length : Int) = ms.length) = true := decide_eq_true (by omega)
    simp [lenS, e, q]
  · refine ⟨.str "unlike", sSet_of (d := .str "unlike") ?_, sh_mono (sh_str "unlike" (by decide +kernel)) (by decide), .inr ⟨told_unlike h hm hg hl hgg hgl q, rfl⟩⟩
    have q' : ¬ (g.length : Int) = ms.length := by omega
    simp [lenS, q']
end MS

/-! MsB13: the law. -/
namespace MS
open PySem L2 PyProof.Rows

section
variable {P : Program} {w : World} {K : PySem.W.Frag} {mg : Str → Option Value} {base : Heap} {ec : MS.XK → Addr} {CS Cb : Addr}
theorem ok_law {f : Addr} {fd : FuncData} (F : L2.Fun K "law" "law" sLaw f fd) (T : Bcl K mg Cb) (Tx' : Txs mg) (Z : Tx K mg ec CS)
    (F__law_mix : Fn P w K mg base ec "_law_mix" ["_law_script", "_law_k"] 2 d__law_mix) (F__law_web : Fn P w K mg base ec "_law_web" ["_law_script", "_law_k", "_law_places"] 3 d__law_web) (F__law_marks : Fn P w K mg base ec "_law_marks" ["_law_script", "_law_k", "_law_web_here", "_law_most"] 3 d__law_marks)
    (F__law_slides : Fn P w K mg base ec "_law_slides" ["_law_web_here", "_law_marks_here"] 2 d__law_slides) (F__law_moved : Fn P w K mg base ec "_law_moved" ["_law_marks_here", "_law_one", "_law_other"] 1 d__law_moved) (F_told : Fn P w K mg base ec "told" ["web", "marks", "goal"] 5 d_told)
    (MK : MkS P w K mg base Cb ["self", "web", "marks"] 3 (spInit Cb ec)) (MB : MtS P w K mg base Cb "back" ["self"] 2 (spBack Cb)) (FSl : FnS P w K mg base "_law_slid" ["_law_board", "_law_one", "_law_other"] 6 (spSlid Cb)) (FTo : FnS P w K mg base "_law_to" ["_law_board", "_law_goal"] 7 (spLTo Cb))
    (FMa : FnS P w K mg base "_law_made" ["_law_web_here", "_law_marks_here"] 5 spMade) (FSa : FnS P w K mg base "_law_same" ["_law_board", "_law_web_here", "_law_marks_here", "_law_row"] 5 (spSame Cb)) :
    FnOk P w K mg base (L2.CX P w) 8 f fd ["_law_script"] (spLaw K) := by
  have nd := scLaw.nd
  refine F.okX scLaw (fun vs H Q E h => ?_) (fun cdv A outer s H vs Q E hr h => ?_)
  · obtain ⟨a, ns, rfl, _⟩ := h
    rfl
  obtain ⟨a, ns, rfl, hS, hl, post⟩ := h
  have tk : Takes (cxOf (L2.CX P w) P w K mg base NL "law" (defScope sLaw) f cdv A outer s H E) (fun cls d _ H' => E cls d H') := takes_of rfl rfl rfl rfl
  have pw := passes_of (X := cxOf (L2.CX P w) P w K mg base NL "law" (defScope sLaw) f cdv A outer s H E) rfl
  refine ⟨_, pss_cons (ps_exC (W := fun cls d _ H' => E cls d H') (ec := ec) fun G B0 => xs_set 1 nd (xe_call F__law_web (hr.mono (by decide)) (xs_cons (xb_var 0) (xs_cons (xb_of xe_int) (xs_cons (xb_of xe_int) xs_nil))) (hn := (sa_len (sa_len (sa_len sa_len0))))))
    (pss_cons (ps_exC (W := fun cls d _ H' => E cls d H') (ec := ec) fun G B0 => xs_set 2 nd (xe_call F__law_marks (hr.mono (by decide)) (xs_cons (xb_var 0) (xs_cons (xb_of xe_int) (xs_cons (xb_var 1) (xs_cons (xb_of xe_int) xs_nil)))) (hn := (sa_len (sa_len (sa_len (sa_len sa_len0)))))))
    (pss_cons (ps_set (i := 3) nd rfl (.inl rfl) (pe_tup (pa_cons (pe_ix ix_seq (pv 1) pe_int (by intro _ _; rfl)) (pa_cons (pe_callTy call_list_of (by rfl) Tx'.list (by decide +kernel) (pa_cons (pe_ix ix_seq (pv 1) pe_int (by intro _ _; rfl)) pa_nil)) pa_nil))))
    (pss_cons (ps_set (i := 4) nd rfl (.inl rfl) (pe_mkS MK (hr.mono (by decide)) T.mgC tk (pa_cons (pv 3) (pa_cons (pv 2) pa_nil))))
    (pss_cons (ps_set (i := 5) nd rfl (.inl rfl) (pe_mkS MK (hr.mono (by decide)) T.mgC tk (pa_cons (pv 3) (pa_cons (pv 2) pa_nil))))
    (pss_cons (ps_expr (pe_bm PySem.F.plainAttrs_list PySem.F.slot_list_append PySem.F.type_list_append mt_append (pe_ix ix_seq (pv 3) pe_int (by intro _ _; rfl)) (pa_cons (pe_tup (pa_cons pe_int (pa_cons pe_int pa_nil))) pa_nil)) rfl)
    (pss_cons (ls_ps (W := fun cls d _ H' => E cls d H') (ec := ec) fun G B0 => xs_set 6 nd (xe_var 2))
    (pss_cons (ls_ps (W := fun cls d _ H' => E cls d H') (ec := ec) fun G B0 => xs_set 7 nd (xe_lst (xl_lst xa_nil)))
    (pss_cons (ps_for pw rfl (pi_range1 rfl Tx'.range (pa_cons (ls_pe (W := fun cls d _ H' => E cls d H') (ec := ec) fun G B0 => xe_mod (xe_call F__law_mix (hr.mono (by decide)) (xs_cons (xb_var 0) (xs_cons (xb_of xe_int) xs_nil)) (hn := (sa_len (sa_len sa_len0)))) xe_int) pa_nil)) (xg_n 8 nd).pg (law_turn (ec := ec) T Tx' Z hr F__law_mix F__law_slides F__law_moved MB FSl FSa))
    (pss_cons (ls_ps (W := fun cls d _ H' => E cls d H') (ec := ec) fun G B0 => xs_set 12 nd (xe_call F__law_marks (hr.mono (by decide)) (xs_cons (xb_var 0) (xs_cons (xb_of xe_int) (xs_cons (xb_var 1) (xs_cons (xb_of xe_int) xs_nil)))) (hn := (sa_len (sa_len (sa_len (sa_len sa_len0)))))))
    (pss_cons (ls_ps (W := fun cls d _ H' => E cls d H') (ec := ec) (g := gDue) fun G B0 => xs_set 13 nd (xe_if (xt_cmp (cm_eq hr) (xe_len Tx' (xb_var 12)) (xe_len Tx' (xb_var 6))) (xe_call F_told (hr.mono (by decide)) (xs_cons (xb_var 1) (xs_cons (xb_var 6) (xs_cons (xb_var 12) xs_nil))) (hn := (sa_len (sa_len (sa_len sa_len0))))) xe_str))
    (pss_cons (ps_if (pw_or (pt_cmpR (cm_ne hr).op (pe_fnS FTo hr tk (pa_cons (pv 4) (pa_cons (pv 12) pa_nil))) (pv 13) (nomark _)) (pw_or1 (pt_cmpR (cm_ne hr).op (pe_fnS FTo hr tk (pa_cons (pv 4) (pa_cons (ls_pe (W := fun cls d _ H' => E cls d H') (ec := ec) fun G B0 => xe_tup (xa_cons xe_int xa_nil)) pa_nil))) pe_str (nomark _)))).pt (pss_one (ps_ret pe_bl)) pss_nil)
    (pss_cons (ps_if (pw_or (pt_cmpR (cm_ne hr).op (pe_fnS FMa (hr.mono (by decide)) tk (pa_cons (ls_pe (W := fun cls d _ H' => E cls d H') (ec := ec) fun G B0 => xe_tup (xa_cons xe_int (xa_cons (xe_lst (xl_lst xa_nil)) xa_nil))) (pa_cons (ls_pe (W := fun cls d _ H' => E cls d H') (ec := ec) fun G B0 => xe_tup (xa_cons xe_int xa_nil)) pa_nil))) pe_str (nomark _)) (pw_or1 (pt_cmpR (cm_ne hr).op (pe_fnS FMa (hr.mono (by decide)) tk (pa_cons (pv 1) (pa_cons (ls_pe (W := fun cls d _ H' => E cls d H') (ec := ec) fun G B0 => xe_tup (xa_cons xe_int xa_nil)) pa_nil))) pe_str (nomark _)))).pt (pss_one (ps_ret pe_bl)) pss_nil)
    (pss_one (ps_ret (pe_fnS FSa (hr.mono (by decide)) tk (pa_cons (pv 5) (pa_cons (pv 1) (pa_cons (pv 2) (pa_cons (ls_pe (W := fun cls d _ H' => E cls d H') (ec := ec) fun G B0 => xe_lst (xl_lst xa_nil)) pa_nil))))))))))))))))))), ?_⟩
  have nlp : ∀ {H1 : Hp} {c : Addr} {o : HO}, H1 c = some o → ∀ {d : Addr}, H1 d = none → d ≠ c := fun e _ n => (ne_of_none e n).symm
  -- the web
  have S0 : Stt K { G := H, B0 := H, W := fun cls d _ H' => E cls d H', ec := ec } H H (L2.start NL [.ref a]) [.sc ns, .nil, .nil, .nil, .nil, .nil, .nil, .nil, .nil, .nil, .nil, .nil, .nil, .nil] :=
    stt_start (C := { G := H, B0 := H, W := fun cls d _ H' => E cls d H', ec := ec }) (K := K) (N := NL) (vs := [.ref a]) (ss := [.sc ns]) (Same.refl H) (.cons ⟨a, rfl, hS⟩ .nil) (by show 1 ≤ 14; decide)
  obtain ⟨n, ps, ew, hw⟩ := law_web_den ns 0 6 (by decide) (by decide)
  have hpl : ps.length < 60 := hw.2.2.2.2
  have e1 : sSet 1 (dCall d__law_web (saCons (bVar 0) (saCons (bOf (dC (.int 0))) (saCons (bOf (dC (.int 6))) saNil)))) [.sc ns, .nil, .nil, .nil, .nil, .nil, .nil, .nil, .nil, .nil, .nil, .nil, .nil, .nil] = .nx [.sc ns, .fz (webP n ps), .nil, .nil, .nil, .nil, .nil, .nil, .nil, .nil, .nil, .nil, .nil, .nil] := sSet_of (d := webP n ps) (by simp [ew])
  refine ⟨H, H, _, H, S0, ?_⟩
  rw [e1]
  intro σ1 B1 H1 s1 S1
  -- the first marks
  obtain ⟨f0, ef, hg0, hl0⟩ := law_marks_den hw (by decide) ns 110 3 (by decide)
  have e2 : sSet 2 (dCall d__law_marks (saCons (bVar 0) (saCons (bOf (dC (.int 110))) (saCons (bVar 1) (saCons (bOf (dC (.int 3))) saNil))))) [.sc ns, .fz (webP n ps), .nil, .nil, .nil, .nil, .nil, .nil, .nil, .nil, .nil, .nil, .nil, .nil] = .nx [.sc ns, .fz (webP n ps), .fz (tupI f0), .nil, .nil, .nil, .nil, .nil, .nil, .nil, .nil, .nil, .nil, .nil] := by
    refine sSet_of (d := tupI f0) ?_
    have ef' : d__law_marks [.sc ns, .fz (.int 110), .fz (webP n ps), .fz (.int 3)] = .ok (tupI f0) := ef
    simp [ef']
  refine ⟨H, H, _, B1, S1, ?_⟩
  rw [e2]
  intro σ2 B2 H2 s2 S2
  -- what is handed
  have hlook : d_look_marks [.fz (webD n ps), .fz (tupI f0)] = .ok .none := by
    have := look_good hw (by decide) hg0 (by omega)
    rwa [webP_eq] at this
  have hnear : NearRun n ps (besD (nbr ps) n.toNat) := nearRun_of hw (by decide)
  obtain ⟨v1, i1, t1'⟩ := S2.r.at' 1 (.fz (webP n ps)) rfl (by intro q; cases q)
  obtain ⟨v2, i2, t2'⟩ := S2.r.at' 2 (.fz (tupI f0)) rfl (by intro q; cases q)
  have t2 : Dt B2 v2 (tupI f0) := t2'
  have t1 : Dt B2 v1 (.tuple [.int n, .list (ps.map prD)]) := by
    have : Dt B2 v1 (webP n ps) := t1'
    rwa [webP_eq] at this
  obtain ⟨t0, q0, us, rfl, bt0, bq0, hus⟩ : ∃ t0 q0 us, v1 = .ref t0 ∧ B2 t0 = some (.tup [.int n, .ref q0]) ∧ B2 q0 = some (.lst us) ∧ DtAll B2 us (ps.map prD) := by
    cases t1 with
    | @tup b xs _ z1 z2 =>
      cases z2 with
      | cons z3 z4 =>
        cases z4 with
        | cons z5 z6 =>
          cases z6
          cases z3
          cases z5 with
          | @lst b2 ys _ y1 y2 => exact ⟨b, b2, ys, rfl, z1, y1, y2⟩
  have ht0 := S2.sm _ _ bt0
  have hq0 := S2.sm _ _ bq0
  refine ⟨.ref t0, i1, .inr (.inl ⟨t0, _, 0, .int n, rfl, rfl, SqT.of ht0, rfl, ?_⟩)⟩
  refine ⟨.ref t0, i1, .inr (.inl ⟨t0, _, 1, .ref q0, rfl, rfl, SqT.of ht0, rfl, ?_⟩)⟩
  refine ⟨q0, us, rfl, .inl (SqL.of hq0), fun q hq => ?_⟩
  refine ⟨by show 2 ≤ sizeLine; decide, fun t ht => ?_⟩
  have x3 : Ext B2 H2 B2 (upd (upd H2 q (.lst us)) t (.tup [.int n, .ref q])) := (Ext.raw S2.sm hq).trans (Ext.raw (Ext.raw S2.sm hq).s ht)
  have ntq : q ≠ t := fun z => by subst z; rw [upd_same] at ht; cases ht
  generalize hH3 : upd (upd H2 q (.lst us)) t (.tup [.int n, .ref q]) = H3 at x3 ⊢
  have h3t : H3 t = some (.tup [.int n, .ref q]) := by rw [← hH3, upd_same]
  have h3q : H3 q = some (.lst us) := by rw [← hH3, upd_ne ntq, upd_same]
  have b2q : B2 q = none := S2.sm.free hq
  have S3 : Stt K { G := H3, B0 := B2, W := fun cls d _ H' => E cls d H', ec := ec } B2 H3 (σ2.set 3 (some (.ref t))) [.sc ns, .fz (webP n ps), .fz (tupI f0), .bx t, .nil, .nil, .nil, .nil, .nil, .nil, .nil, .nil, .nil, .nil] :=
    ((S2.on x3).setA 3 (v := .ref t) (s := .bx t) rfl rfl).rebase (noOwn_of rfl) (Same.refl _) x3.s
  have hl2 : σ2.length = 14 := S2.r.len
  -- the board
  refine ⟨.ref t, (List.getElem?_set_self (by omega)), v2, (by rw [List.getElem?_set_ne (by decide)]; exact i2), fun a1 dx1 f1 f2 ne1 => ?_⟩
  refine mk_board x3.s h3t h3q hus t2 hlook hnear f1 f2 ne1 fun B4 H4 l1 h34 s24 n4 s44 fl1 bd1 => ?_
  have S4 : Stt K { G := H4, B0 := B4, W := fun cls d _ H' => E cls d H', ec := ec } B4 H4 ((σ2.set 3 (some (.ref t))).set 4 (some (.ref a1))) [.sc ns, .fz (webP n ps), .fz (tupI f0), .bx t, .bx a1, .nil, .nil, .nil, .nil, .nil, .nil, .nil, .nil, .nil] :=
    (S3.rebase (noOwn_of rfl) s24 s44).setA 4 (v := .ref a1) (s := .bx a1) rfl rfl
  have h4t := h34 _ _ h3t
  have h4q := h34 _ _ h3q
  have b4q : B4 q = none := by
    cases e : B4 q with
    | none => rfl
    | some o =>
      rcases n4 q o e with z | z | ⟨ys, rfl⟩
      · rw [b2q] at z; cases z
      · rw [h3q] at z; cases z
      · have := s44 _ _ e
        rw [h4q] at this
        cases this
  -- the board beside
  refine ⟨.ref t, (by rw [List.getElem?_set_ne (by decide)]; exact List.getElem?_set_self (by omega)), v2, (by rw [List.getElem?_set_ne (by decide), List.getElem?_set_ne (by decide)]; exact i2), fun a2 dx2 g1 g2 ne2 => ?_⟩
  refine mk_board s44 h4t h4q (hus.on s24) (t2.on s24) hlook hnear g1 g2 ne2 fun B5 H5 l2 h45 s45 n5 s55 fl2 bd2 => ?_
  have S5 : Stt K { G := H5, B0 := B5, W := fun cls d _ H' => E cls d H', ec := ec } B5 H5 (((σ2.set 3 (some (.ref t))).set 4 (some (.ref a1))).set 5 (some (.ref a2))) [.sc ns, .fz (webP n ps), .fz (tupI f0), .bx t, .bx a1, .bx a2, .nil, .nil, .nil, .nil, .nil, .nil, .nil, .nil] :=
    (S4.rebase (noOwn_of rfl) s45 s55).setA 5 (v := .ref a2) (s := .bx a2) rfl rfl
  have h5t := h45 _ _ h4t
  have h5q := h45 _ _ h4q
  have b5q : B5 q = none := by
    cases e : B5 q with
    | none => rfl
    | some o =>
      rcases n5 q o e with z | z | ⟨ys, rfl⟩
      · rw [b4q] at z; cases z
      · rw [h4q] at z; cases z
      · have := s55 _ _ e
        rw [h5q] at this
        cases this
  have bd1' := bd1.grow h45 s45 s55 n5
  have a1q : a1 ≠ q := (ne_of_none h3q f1).symm
  have a2q : a2 ≠ q := (ne_of_none h4q g1).symm
  have l1q : l1 ≠ q := (ne_of_none h3q fl1).symm
  have l2q : l2 ≠ q := (ne_of_none h4q fl2).symm
  have a12 : a1 ≠ a2 := by
    obtain ⟨dx, vw, vb, vh, z, _⟩ := bd1.ins
    exact ne_of_none z g1
  have l12 : l1 ≠ l2 := by
    obtain ⟨xs, z, _⟩ := bd1.lst
    exact ne_of_none z fl2
  -- what was handed is changed
  refine ⟨.ref t, (by rw [List.getElem?_set_ne (by decide), List.getElem?_set_ne (by decide)]; exact List.getElem?_set_self (by omega)), .inr (.inl ⟨t, _, 1, .ref q, rfl, rfl, SqT.of h5t, rfl, ?_⟩)⟩
  refine ⟨.inl ⟨rfl, us, SqL.of h5q⟩, by show 2 ≤ sizeLine; decide, fun tt ntt => ?_⟩
  have qtt : q ≠ tt := ne_of_none h5q ntt
  have x6 : Ext B5 H5 B5 (upd H5 tt (.tup [.int 0, .int 0])) := Ext.raw s55 ntt
  refine ⟨q, us, .ref tt, rfl, rfl, by rw [upd_ne qtt]; exact h5q, ?_, ?_⟩
  · have := hus.len
    rw [List.length_map] at this
    exact lim_lt (by show us.length ≤ 1000000; omega)
  have sm6 : Same B5 (upd (upd H5 tt (.tup [.int 0, .int 0])) q (.lst (us ++ [.ref tt]))) := fun c o e => by
    have : c ≠ q := by rintro rfl; rw [b5q] at e; cases e
    rw [upd_ne this]
    exact x6.s _ _ e
  have L6 : LS K (fun cls d _ H' => E cls d H') ec Cb (webP n ps) (besD (nbr ps) n.toNat) (tupI f0) a1 l1 a2 l2 (tupI f0) [] [.sc ns, .fz (webP n ps), .fz (tupI f0), .bx t, .bx a1, .bx a2, .nil, .nil, .nil, .nil, .nil, .nil, .nil, .nil] B5 _ _ :=
    ⟨S5.rebase (noOwn_of rfl) (Same.refl _) sm6, by rw [webP_eq]; exact (bd1'.on x6).put a1q l1q, by rw [webP_eq]; exact (bd2.on x6).put a2q l2q, a12, l12, rfl⟩
  -- marks, row
  refine ⟨_, _, _, _, _, _, _, _, _, _, _, _, _, L6, sSet_of (d := tupI f0) rfl, noOwn_set 6 L6.no rfl, fun σ7 B7 H7 L7 => ?_⟩
  refine ⟨_, _, _, _, _, _, _, _, _, _, _, _, _, L7, sSet_of (d := rowD []) rfl, noOwn_set 7 L7.no rfl, fun σ8 B8 H8 L8 => ?_⟩
  have L8' : LW K (fun cls d _ H' => E cls d H') ec Cb ns n ps f0 t a1 l1 a2 l2 [] .nil .nil .nil .nil B8 H8 σ8 := L8
  -- the loop
  have hx0 : 0 ≤ mixZ ns 120 % 15 := Int.emod_nonneg _ (by omega)
  have hx1 : mixZ ns 120 % 15 < 15 := Int.emod_lt_of_pos _ (by omega)
  refine ⟨_, _, _, _, _, _, _, _, _, _, _, _, .int (mixZ ns 120 % 15), L8, (by simp [law_mix_den, opMod_int _ 15 (by decide)]), fun v9 B9 H9 x9 L9 tv9 => ?_⟩
  cases tv9
  generalize mixZ ns 120 % 15 = cz at hx0 hx1
  refine ⟨cz, rfl, by omega, by omega, ?_⟩
  have L9' : LW K (fun cls d _ H' => E cls d H') ec Cb ns n ps f0 t a1 l1 a2 l2 [] .nil .nil .nil .nil B9 H9 σ8 := L9
  refine ⟨fun i m σ' H' => m = cz.toNat - i ∧ i ≤ cz.toNat ∧ ∃ B' row s8 s9 s10 s11, RowOk ps f0 row ∧ row.length ≤ i ∧ LW K (fun cls d _ H' => E cls d H') ec Cb ns n ps f0 t a1 l1 a2 l2 row s8 s9 s10 s11 B' H' σ', ⟨cz.toNat, by simp, Nat.zero_le _, B9, [], _, _, _, _, trivial, Nat.le_refl _, L9'⟩, ?_⟩
  rintro i m σ' H' ⟨rfl, hi, B', row, s8, s9, s10, s11, hrow, hlen, L⟩
  by_cases hlt : i < cz.toNat
  · refine .inr ⟨hlt, fun σ2 H2 => ∃ B' row s8 s9 s10 s11, RowOk ps f0 row ∧ row.length ≤ i + 1 ∧ LW K (fun cls d _ H' => E cls d H') ec Cb ns n ps f0 t a1 l1 a2 l2 row s8 s9 s10 s11 B' H2 σ2, fun σ2 H2 p => ⟨cz.toNat - (i + 1), by omega, rfl, hlt, p⟩, fun x H3 y => ?_⟩
    obtain ⟨rfl, rfl⟩ := y
    have L' : LW K (fun cls d _ H' => E cls d H') ec Cb ns n ps f0 t a1 l1 a2 l2 row (.fz (.int (0 + i))) s9 s10 s11 B' H3 (σ'.set 8 (some (.int (0 + i)))) := L.on (L.s.set 8 (.int (0 + (i : Int)))) (noOwn_set 8 L.no rfl)
    exact ⟨ns, n, ps, f0, t, a1, l1, a2, l2, row, 0 + i, s9, s10, s11, B', hw, hg0, hl0, hrow, by omega, L', fun σ3 B3 H3 row' s9' s10' s11' hr' hl' L3 => ⟨B3, row', _, s9', s10', s11', hr', by omega, L3⟩⟩
  refine .inl ⟨by show cz.toNat ≤ i; omega, ?_⟩
  -- the goal
  obtain ⟨hg, hlm⟩ := row_good hw hg0 hrow
  obtain ⟨g, eg, hgg, hgl⟩ := law_marks_den hw (by decide) ns 140 3 (by decide)
  have eg' : d__law_marks [.sc ns, .fz (.int 140), .fz (webP n ps), .fz (.int 3)] = .ok (tupI g) := eg
  refine ⟨_, _, _, _, _, _, _, _, _, _, _, _, _, L, sSet_of (d := tupI g) (by simp [eg']), noOwn_set 12 L.no rfl, fun σ10 B10 H10 L10 => ?_⟩
  obtain ⟨due, edue, shd, htold⟩ := due_at (ns := ns) (f0 := f0) (t := t) (a1 := a1) (a2 := a2) (row := row) (s8 := s8) (s9 := s9) (s10 := s10) (s11 := s11) (s13 := .nil) hw (by decide) hg (by omega) hgg (by omega)
  refine ⟨_, _, _, _, _, _, _, _, _, _, _, _, _, L10, edue, noOwn_set 13 L10.no (s := .fz due) rfl, fun σ11 B11 H11 L11 => ?_⟩
  -- to
  obtain ⟨v12, i12, t12⟩ := L11.fz 12 rfl
  obtain ⟨v13, i13, t13⟩ := L11.fz 13 rfl
  have tgo : ∀ (R : VK), (∀ v B' H', Ext B11 H11 B' H' → Dt B' v due → R v H') → (match d_told [.fz (webP n ps), .fz (tupI (endM f0 row)), .fz (tupI g)] with
    | .ok d => ∀ v B' H', Ext B11 H11 B' H' → Dt B' v d → R v H'
    | .er k => ∀ B' H', Ext B11 H11 B' H' → R (.str (kName k)) H'
    | .no => False) := fun R k => by
    rcases htold with e | ⟨e, rfl⟩
    · rw [e]
      exact k
    · rw [e]
      exact fun B' H' x => k _ B' H' x (.str _)
  refine ⟨.ref a1, L11.bx 4 rfl, v12, i12, a1, l1, B11, _, _, _, _, v12, tupI g, rfl, L11.sm, L11.b1, t12, ?_⟩
  refine tgo _ fun v B12 H12 x12 tv => ?_
  refine ⟨v13, i13, B12, due, due, false, x12.s, tv, t13.on x12.b, cNe_self shd, false, rfl, ite_no ?_⟩
  have L12 := L11.ext x12
  refine ⟨.ref a1, L12.bx 4 rfl, _, _, _, _, _, _, _, _, _, _, _, _, tupI [99], L12, rfl, fun v13' B13 H13 x13 L13 tv13 => ?_⟩
  refine ⟨a1, l1, B13, _, _, _, _, v13', tupI [99], rfl, L13.sm, L13.b1, tv13, ?_⟩
  rw [told_bad hw (by decide) hg (by omega) (by have := hw.2.1; omega)]
  intro B14 H14 x14
  refine ⟨B14, .str "marks", .str "marks", false, x14.s, .str _, .str _, cNe_self (sh_str "marks" (by decide +kernel)), false, rfl, ite_no ?_⟩
  have L14 := L13.ext x14
  -- made
  refine ⟨_, _, _, _, _, _, _, _, _, _, _, _, webP 13 [], L14, rfl, fun v15 B15 H15 x15 L15 tv15 => ?_⟩
  refine ⟨_, _, _, _, _, _, _, _, _, _, _, _, tupI [99], L15, rfl, fun v16 B16 H16 x16 L16 tv16 => ?_⟩
  refine ⟨B16, v15, v16, webP 13 [], tupI [99], .web, rfl, L16.sm, tv15.on x16.b, tv16, look_bad_web, fun B17 H17 x17 => ?_⟩
  refine ⟨B17, .str "web", .str "web", false, x17.s, .str _, .str _, cNe_self (sh_str "web" (by decide +kernel)), false, rfl, ite_no ?_⟩
  have L17 := L16.ext x17
  obtain ⟨w1, j1, u1⟩ := L17.fz 1 rfl
  refine ⟨w1, j1, _, _, _, _, _, _, _, _, _, _, _, _, tupI [99], L17, rfl, fun v18 B18 H18 x18 L18 tv18 => ?_⟩
  refine ⟨B18, w1, v18, webP n ps, tupI [99], .marks, rfl, L18.sm, u1.on x18.b, tv18, look_bad hw (by decide), fun B19 H19 x19 => ?_⟩
  refine ⟨B19, .str "marks", .str "marks", false, x19.s, .str _, .str _, cNe_self (sh_str "marks" (by decide +kernel)), false, rfl, ite_no ?_⟩
  have L19 := L18.ext x19
  -- the board beside
  obtain ⟨w2, j2, u2⟩ := L19.fz 1 rfl
  obtain ⟨w3, j3, u3⟩ := L19.fz 2 rfl
  have hsl0 : (slidesM n ps f0).length ≤ 50000 := sl_len hpl (by omega)
  refine ⟨.ref a2, L19.bx 5 rfl, w2, j2, w3, j3, _, _, _, _, _, _, _, _, _, _, _, _, rowD [], L19, rfl, fun v20 B20 H20 x20 L20 tv20 => ?_⟩
  refine ⟨a2, l2, B20, w2, w3, v20, webP n ps, webP n ps, besD (nbr ps) n.toNat, tupI f0, tupI f0, rowD (slidesM n ps f0), rowD [], [], (slidesM n ps f0).map prD, rfl, L20.sm, L20.b2, u2.on x20.b, u3.on x20.b, tv20,
    cNe_self (sh_tupI _), slRun_of hw (by decide) hg0.2.1 (by omega), law_slides_den hw (by decide) hg0 (by omega), cNe_self (sh_row _), cNe_self (sh_row []), by rw [List.length_map]; omega, by show 0 < 1000; decide, fun B' H' x => post H'⟩
end
end MS

/-! MsB14: what the top has written. -/
namespace MS
open PySem L2 PyProof.Rows
theorem all_mk {P : Program} {w : World} {K : PySem.W.Frag} {h : Heap} {mg : Str → Option Value} {fa CS Cb q1 q2 q3 q4 q5 q6 : Addr} (X : K.In h) (G : h.Ns mainGlobals mg) (hfa : mg "law" = some (.ref fa))
    {f0 : Addr} {od0 an0 : Option Addr} {sl0 : Array (Option Value)} {oc0 kV0 dc0 pm0 cd0 ct0 : Value} (a0 : PySem.W.nsIn K mainGlobals "look_web" = some (some (.ref f0))) (l0 : K.lookup f0 = some ⟨oc0, od0, .func (PySem.W.fnOf "look_web" "look_web" (defArgs s_look_web) (defBody s_look_web) (defScope s_look_web) .none kV0 dc0 pm0 an0 cd0 ct0), sl0⟩) (c0 : PySem.W.codeIn K cd0 "look_web" = true) (k0 : PySem.W.keepIn K (.ref f0) = true)
    {f1 : Addr} {od1 an1 : Option Addr} {sl1 : Array (Option Value)} {oc1 kV1 dc1 pm1 cd1 ct1 : Value} (a1 : PySem.W.nsIn K mainGlobals "near" = some (some (.ref f1))) (l1 : K.lookup f1 = some ⟨oc1, od1, .func (PySem.W.fnOf "near" "near" (defArgs s_near) (defBody s_near) (defScope s_near) .none kV1 dc1 pm1 an1 cd1 ct1), sl1⟩) (c1 : PySem.W.codeIn K cd1 "near" = true) (k1 : PySem.W.keepIn K (.ref f1) = true)
    {f2 : Addr} {od2 an2 : Option Addr} {sl2 : Array (Option Value)} {oc2 kV2 dc2 pm2 cd2 ct2 : Value} (a2 : PySem.W.nsIn K mainGlobals "is_marks" = some (some (.ref f2))) (l2 : K.lookup f2 = some ⟨oc2, od2, .func (PySem.W.fnOf "is_marks" "is_marks" (defArgs s_is_marks) (defBody s_is_marks) (defScope s_is_marks) .none kV2 dc2 pm2 an2 cd2 ct2), sl2⟩) (c2 : PySem.W.codeIn K cd2 "is_marks" = true) (k2 : PySem.W.keepIn K (.ref f2) = true)
    {f3 : Addr} {od3 an3 : Option Addr} {sl3 : Array (Option Value)} {oc3 kV3 dc3 pm3 cd3 ct3 : Value} (a3 : PySem.W.nsIn K mainGlobals "look_marks" = some (some (.ref f3))) (l3 : K.lookup f3 = some ⟨oc3, od3, .func (PySem.W.fnOf "look_marks" "look_marks" (defArgs s_look_marks) (defBody s_look_marks) (defScope s_look_marks) .none kV3 dc3 pm3 an3 cd3 ct3), sl3⟩) (c3 : PySem.W.codeIn K cd3 "look_marks" = true) (k3 : PySem.W.keepIn K (.ref f3) = true)
    {f4 : Addr} {od4 an4 : Option Addr} {sl4 : Array (Option Value)} {oc4 kV4 dc4 pm4 cd4 ct4 : Value} (a4 : PySem.W.nsIn K mainGlobals "moved" = some (some (.ref f4))) (l4 : K.lookup f4 = some ⟨oc4, od4, .func (PySem.W.fnOf "moved" "moved" (defArgs s_moved) (defBody s_moved) (defScope s_moved) .none kV4 dc4 pm4 an4 cd4 ct4), sl4⟩) (c4 : PySem.W.codeIn K cd4 "moved" = true) (k4 : PySem.W.keepIn K (.ref f4) = true)
    {f5 : Addr} {od5 an5 : Option Addr} {sl5 : Array (Option Value)} {oc5 kV5 dc5 pm5 cd5 ct5 : Value} (a5 : PySem.W.nsIn K mainGlobals "slides_of" = some (some (.ref f5))) (l5 : K.lookup f5 = some ⟨oc5, od5, .func (PySem.W.fnOf "slides_of" "slides_of" (defArgs s_slides_of) (defBody s_slides_of) (defScope s_slides_of) .none kV5 dc5 pm5 an5 cd5 ct5), sl5⟩) (c5 : PySem.W.codeIn K cd5 "slides_of" = true) (k5 : PySem.W.keepIn K (.ref f5) = true)
    {f6 : Addr} {od6 an6 : Option Addr} {sl6 : Array (Option Value)} {oc6 kV6 dc6 pm6 cd6 ct6 : Value} (a6 : PySem.W.nsIn K mainGlobals "look_two" = some (some (.ref f6))) (l6 : K.lookup f6 = some ⟨oc6, od6, .func (PySem.W.fnOf "look_two" "look_two" (defArgs s_look_two) (defBody s_look_two) (defScope s_look_two) .none kV6 dc6 pm6 an6 cd6 ct6), sl6⟩) (c6 : PySem.W.codeIn K cd6 "look_two" = true) (k6 : PySem.W.keepIn K (.ref f6) = true)
    {f7 : Addr} {od7 an7 : Option Addr} {sl7 : Array (Option Value)} {oc7 kV7 dc7 pm7 cd7 ct7 : Value} (a7 : PySem.W.nsIn K mainGlobals "room" = some (some (.ref f7))) (l7 : K.lookup f7 = some ⟨oc7, od7, .func (PySem.W.fnOf "room" "room" (defArgs s_room) (defBody s_room) (defScope s_room) .none kV7 dc7 pm7 an7 cd7 ct7), sl7⟩) (c7 : PySem.W.codeIn K cd7 "room" = true) (k7 : PySem.W.keepIn K (.ref f7) = true)
    {f8 : Addr} {od8 an8 : Option Addr} {sl8 : Array (Option Value)} {oc8 kV8 dc8 pm8 cd8 ct8 : Value} (a8 : PySem.W.nsIn K mainGlobals "fewest" = some (some (.ref f8))) (l8 : K.lookup f8 = some ⟨oc8, od8, .func (PySem.W.fnOf "fewest" "fewest" (defArgs s_fewest) (defBody s_fewest) (defScope s_fewest) .none kV8 dc8 pm8 an8 cd8 ct8), sl8⟩) (c8 : PySem.W.codeIn K cd8 "fewest" = true) (k8 : PySem.W.keepIn K (.ref f8) = true)
    {f9 : Addr} {od9 an9 : Option Addr} {sl9 : Array (Option Value)} {oc9 kV9 dc9 pm9 cd9 ct9 : Value} (a9 : PySem.W.nsIn K mainGlobals "told" = some (some (.ref f9))) (l9 : K.lookup f9 = some ⟨oc9, od9, .func (PySem.W.fnOf "told" "told" (defArgs s_told) (defBody s_told) (defScope s_told) .none kV9 dc9 pm9 an9 cd9 ct9), sl9⟩) (c9 : PySem.W.codeIn K cd9 "told" = true) (k9 : PySem.W.keepIn K (.ref f9) = true)
    {f10 : Addr} {od10 an10 : Option Addr} {sl10 : Array (Option Value)} {oc10 kV10 dc10 pm10 cd10 ct10 : Value} (a10 : PySem.W.nsIn K mainGlobals "_law_cell" = some (some (.ref f10))) (l10 : K.lookup f10 = some ⟨oc10, od10, .func (PySem.W.fnOf "_law_cell" "_law_cell" (defArgs s__law_cell) (defBody s__law_cell) (defScope s__law_cell) .none kV10 dc10 pm10 an10 cd10 ct10), sl10⟩) (c10 : PySem.W.codeIn K cd10 "_law_cell" = true) (k10 : PySem.W.keepIn K (.ref f10) = true)
    {f11 : Addr} {od11 an11 : Option Addr} {sl11 : Array (Option Value)} {oc11 kV11 dc11 pm11 cd11 ct11 : Value} (a11 : PySem.W.nsIn K mainGlobals "_law_mix" = some (some (.ref f11))) (l11 : K.lookup f11 = some ⟨oc11, od11, .func (PySem.W.fnOf "_law_mix" "_law_mix" (defArgs s__law_mix) (defBody s__law_mix) (defScope s__law_mix) .none kV11 dc11 pm11 an11 cd11 ct11), sl11⟩) (c11 : PySem.W.codeIn K cd11 "_law_mix" = true) (k11 : PySem.W.keepIn K (.ref f11) = true)
    {f12 : Addr} {od12 an12 : Option Addr} {sl12 : Array (Option Value)} {oc12 kV12 dc12 pm12 cd12 ct12 : Value} (a12 : PySem.W.nsIn K mainGlobals "_law_web" = some (some (.ref f12))) (l12 : K.lookup f12 = some ⟨oc12, od12, .func (PySem.W.fnOf "_law_web" "_law_web" (defArgs s__law_web) (defBody s__law_web) (defScope s__law_web) .none kV12 dc12 pm12 an12 cd12 ct12), sl12⟩) (c12 : PySem.W.codeIn K cd12 "_law_web" = true) (k12 : PySem.W.keepIn K (.ref f12) = true)
    {f13 : Addr} {od13 an13 : Option Addr} {sl13 : Array (Option Value)} {oc13 kV13 dc13 pm13 cd13 ct13 : Value} (a13 : PySem.W.nsIn K mainGlobals "_law_is_marks" = some (some (.ref f13))) (l13 : K.lookup f13 = some ⟨oc13, od13, .func (PySem.W.fnOf "_law_is_marks" "_law_is_marks" (defArgs s__law_is_marks) (defBody s__law_is_marks) (defScope s__law_is_marks) .none kV13 dc13 pm13 an13 cd13 ct13), sl13⟩) (c13 : PySem.W.codeIn K cd13 "_law_is_marks" = true) (k13 : PySem.W.keepIn K (.ref f13) = true)
    {f14 : Addr} {od14 an14 : Option Addr} {sl14 : Array (Option Value)} {oc14 kV14 dc14 pm14 cd14 ct14 : Value} (a14 : PySem.W.nsIn K mainGlobals "_law_marks" = some (some (.ref f14))) (l14 : K.lookup f14 = some ⟨oc14, od14, .func (PySem.W.fnOf "_law_marks" "_law_marks" (defArgs s__law_marks) (defBody s__law_marks) (defScope s__law_marks) .none kV14 dc14 pm14 an14 cd14 ct14), sl14⟩) (c14 : PySem.W.codeIn K cd14 "_law_marks" = true) (k14 : PySem.W.keepIn K (.ref f14) = true)
    {f15 : Addr} {od15 an15 : Option Addr} {sl15 : Array (Option Value)} {oc15 kV15 dc15 pm15 cd15 ct15 : Value} (a15 : PySem.W.nsIn K mainGlobals "_law_moved" = some (some (.ref f15))) (l15 : K.lookup f15 = some ⟨oc15, od15, .func (PySem.W.fnOf "_law_moved" "_law_moved" (defArgs s__law_moved) (defBody s__law_moved) (defScope s__law_moved) .none kV15 dc15 pm15 an15 cd15 ct15), sl15⟩) (c15 : PySem.W.codeIn K cd15 "_law_moved" = true) (k15 : PySem.W.keepIn K (.ref f15) = true)
    {f16 : Addr} {od16 an16 : Option Addr} {sl16 : Array (Option Value)} {oc16 kV16 dc16 pm16 cd16 ct16 : Value} (a16 : PySem.W.nsIn K mainGlobals "_law_slides" = some (some (.ref f16))) (l16 : K.lookup f16 = some ⟨oc16, od16, .func (PySem.W.fnOf "_law_slides" "_law_slides" (defArgs s__law_slides) (defBody s__law_slides) (defScope s__law_slides) .none kV16 dc16 pm16 an16 cd16 ct16), sl16⟩) (c16 : PySem.W.codeIn K cd16 "_law_slides" = true) (k16 : PySem.W.keepIn K (.ref f16) = true)
    {f17 : Addr} {od17 an17 : Option Addr} {sl17 : Array (Option Value)} {oc17 kV17 dc17 pm17 cd17 ct17 : Value} (a17 : PySem.W.nsIn K mainGlobals "_law_refusal" = some (some (.ref f17))) (l17 : K.lookup f17 = some ⟨oc17, od17, .func (PySem.W.fnOf "_law_refusal" "_law_refusal" (defArgs s__law_refusal) (defBody s__law_refusal) (defScope s__law_refusal) .none kV17 dc17 pm17 an17 cd17 ct17), sl17⟩) (c17 : PySem.W.codeIn K cd17 "_law_refusal" = true) (k17 : PySem.W.keepIn K (.ref f17) = true)
    {f18 : Addr} {od18 an18 : Option Addr} {sl18 : Array (Option Value)} {oc18 kV18 dc18 pm18 cd18 ct18 : Value} (a18 : PySem.W.nsIn K mainGlobals "_law_slid" = some (some (.ref f18))) (l18 : K.lookup f18 = some ⟨oc18, od18, .func (PySem.W.fnOf "_law_slid" "_law_slid" (defArgs sSlid) (defBody sSlid) (defScope sSlid) .none kV18 dc18 pm18 an18 cd18 ct18), sl18⟩) (c18 : PySem.W.codeIn K cd18 "_law_slid" = true) (k18 : PySem.W.keepIn K (.ref f18) = true)
    {f19 : Addr} {od19 an19 : Option Addr} {sl19 : Array (Option Value)} {oc19 kV19 dc19 pm19 cd19 ct19 : Value} (a19 : PySem.W.nsIn K mainGlobals "_law_to" = some (some (.ref f19))) (l19 : K.lookup f19 = some ⟨oc19, od19, .func (PySem.W.fnOf "_law_to" "_law_to" (defArgs sTo) (defBody sTo) (defScope sTo) .none kV19 dc19 pm19 an19 cd19 ct19), sl19⟩) (c19 : PySem.W.codeIn K cd19 "_law_to" = true) (k19 : PySem.W.keepIn K (.ref f19) = true)
    {f20 : Addr} {od20 an20 : Option Addr} {sl20 : Array (Option Value)} {oc20 kV20 dc20 pm20 cd20 ct20 : Value} (a20 : PySem.W.nsIn K mainGlobals "_law_made" = some (some (.ref f20))) (l20 : K.lookup f20 = some ⟨oc20, od20, .func (PySem.W.fnOf "_law_made" "_law_made" (defArgs sMade) (defBody sMade) (defScope sMade) .none kV20 dc20 pm20 an20 cd20 ct20), sl20⟩) (c20 : PySem.W.codeIn K cd20 "_law_made" = true) (k20 : PySem.W.keepIn K (.ref f20) = true)
    {f21 : Addr} {od21 an21 : Option Addr} {sl21 : Array (Option Value)} {oc21 kV21 dc21 pm21 cd21 ct21 : Value} (a21 : PySem.W.nsIn K mainGlobals "_law_same" = some (some (.ref f21))) (l21 : K.lookup f21 = some ⟨oc21, od21, .func (PySem.W.fnOf "_law_same" "_law_same" (defArgs sSame) (defBody sSame) (defScope sSame) .none kV21 dc21 pm21 an21 cd21 ct21), sl21⟩) (c21 : PySem.W.codeIn K cd21 "_law_same" = true) (k21 : PySem.W.keepIn K (.ref f21) = true)
    {f22 : Addr} {od22 an22 : Option Addr} {sl22 : Array (Option Value)} {oc22 kV22 dc22 pm22 cd22 ct22 : Value} (a22 : PySem.W.nsIn K mainGlobals "law" = some (some (.ref f22))) (l22 : K.lookup f22 = some ⟨oc22, od22, .func (PySem.W.fnOf "law" "law" (defArgs sLaw) (defBody sLaw) (defScope sLaw) .none kV22 dc22 pm22 an22 cd22 ct22), sl22⟩) (c22 : PySem.W.codeIn K cd22 "law" = true) (k22 : PySem.W.keepIn K (.ref f22) = true)
    {f23 : Addr} {od23 an23 : Option Addr} {sl23 : Array (Option Value)} {oc23 kV23 dc23 pm23 cd23 ct23 : Value} (a23 : PySem.W.findIn K (.ref Cb) "__init__" = some (some (.ref f23))) (i23 : PySem.W.isFn K (.ref f23) = true) (l23 : K.lookup f23 = some ⟨oc23, od23, .func (PySem.W.fnOf "__init__" "Board.__init__" (defArgs (sB 0)) (defBody (sB 0)) (defScope (sB 0)) .none kV23 dc23 pm23 an23 cd23 ct23), sl23⟩) (c23 : PySem.W.codeIn K cd23 "Board.__init__" = true) (k23 : PySem.W.keepIn K (.ref f23) = true)
    {f24 : Addr} {od24 an24 : Option Addr} {sl24 : Array (Option Value)} {oc24 kV24 dc24 pm24 cd24 ct24 : Value} (a24 : PySem.W.findIn K (.ref Cb) "marks" = some (some (.ref f24))) (i24 : PySem.W.isFn K (.ref f24) = true) (l24 : K.lookup f24 = some ⟨oc24, od24, .func (PySem.W.fnOf "marks" "Board.marks" (defArgs (sB 1)) (defBody (sB 1)) (defScope (sB 1)) .none kV24 dc24 pm24 an24 cd24 ct24), sl24⟩) (c24 : PySem.W.codeIn K cd24 "Board.marks" = true) (k24 : PySem.W.keepIn K (.ref f24) = true)
    {f25 : Addr} {od25 an25 : Option Addr} {sl25 : Array (Option Value)} {oc25 kV25 dc25 pm25 cd25 ct25 : Value} (a25 : PySem.W.findIn K (.ref Cb) "slides" = some (some (.ref f25))) (i25 : PySem.W.isFn K (.ref f25) = true) (l25 : K.lookup f25 = some ⟨oc25, od25, .func (PySem.W.fnOf "slides" "Board.slides" (defArgs (sB 2)) (defBody (sB 2)) (defScope (sB 2)) .none kV25 dc25 pm25 an25 cd25 ct25), sl25⟩) (c25 : PySem.W.codeIn K cd25 "Board.slides" = true) (k25 : PySem.W.keepIn K (.ref f25) = true)
    {f26 : Addr} {od26 an26 : Option Addr} {sl26 : Array (Option Value)} {oc26 kV26 dc26 pm26 cd26 ct26 : Value} (a26 : PySem.W.findIn K (.ref Cb) "slide" = some (some (.ref f26))) (i26 : PySem.W.isFn K (.ref f26) = true) (l26 : K.lookup f26 = some ⟨oc26, od26, .func (PySem.W.fnOf "slide" "Board.slide" (defArgs (sB 3)) (defBody (sB 3)) (defScope (sB 3)) .none kV26 dc26 pm26 an26 cd26 ct26), sl26⟩) (c26 : PySem.W.codeIn K cd26 "Board.slide" = true) (k26 : PySem.W.keepIn K (.ref f26) = true)
    {f27 : Addr} {od27 an27 : Option Addr} {sl27 : Array (Option Value)} {oc27 kV27 dc27 pm27 cd27 ct27 : Value} (a27 : PySem.W.findIn K (.ref Cb) "back" = some (some (.ref f27))) (i27 : PySem.W.isFn K (.ref f27) = true) (l27 : K.lookup f27 = some ⟨oc27, od27, .func (PySem.W.fnOf "back" "Board.back" (defArgs (sB 4)) (defBody (sB 4)) (defScope (sB 4)) .none kV27 dc27 pm27 an27 cd27 ct27), sl27⟩) (c27 : PySem.W.codeIn K cd27 "Board.back" = true) (k27 : PySem.W.keepIn K (.ref f27) = true)
    {f28 : Addr} {od28 an28 : Option Addr} {sl28 : Array (Option Value)} {oc28 kV28 dc28 pm28 cd28 ct28 : Value} (a28 : PySem.W.findIn K (.ref Cb) "row" = some (some (.ref f28))) (i28 : PySem.W.isFn K (.ref f28) = true) (l28 : K.lookup f28 = some ⟨oc28, od28, .func (PySem.W.fnOf "row" "Board.row" (defArgs (sB 5)) (defBody (sB 5)) (defScope (sB 5)) .none kV28 dc28 pm28 an28 cd28 ct28), sl28⟩) (c28 : PySem.W.codeIn K cd28 "Board.row" = true) (k28 : PySem.W.keepIn K (.ref f28) = true)
    {f29 : Addr} {od29 an29 : Option Addr} {sl29 : Array (Option Value)} {oc29 kV29 dc29 pm29 cd29 ct29 : Value} (a29 : PySem.W.findIn K (.ref Cb) "to" = some (some (.ref f29))) (i29 : PySem.W.isFn K (.ref f29) = true) (l29 : K.lookup f29 = some ⟨oc29, od29, .func (PySem.W.fnOf "to" "Board.to" (defArgs (sB 6)) (defBody (sB 6)) (defScope (sB 6)) .none kV29 dc29 pm29 an29 cd29 ct29), sl29⟩) (c29 : PySem.W.codeIn K cd29 "Board.to" = true) (k29 : PySem.W.keepIn K (.ref f29) = true)
    (aC : PySem.W.nsIn K mainGlobals "Board" = some (some (.ref Cb))) (pg : PySem.W.plainGet K Cb Str.empty = true) (hd : PySem.W.hasDictIn K Cb = true) (po : PySem.W.plainOver K Cb = true) (sa : PySem.W.findIn K (.ref Cb) "__setattr__" = some (some (.builtin "object.__setattr__"))) (mk : PySem.W.makesIn K Cb = true) (kc : PySem.W.keepIn K (.ref Cb) = true)
    (nW : PySem.W.findIn K (.ref Cb) "web" = some none) (nB : PySem.W.findIn K (.ref Cb) "beside" = some none) (nH : PySem.W.findIn K (.ref Cb) "here" = some none) (nO : PySem.W.findIn K (.ref Cb) "old" = some none)
    (kS : Ks K CS) (kC1 : Kc K "BadWeb" q1 CS) (kC2 : Kc K "BadMarks" q2 CS) (kC3 : Kc K "BadSlide" q3 CS) (kC4 : Kc K "Unlike" q4 CS) (kC5 : Kc K "NoTree" q5 CS) (kC6 : Kc K "BadText" q6 CS) (kO : ∀ k k', PySem.W.subIn K (.ref (ecF q1 q2 q3 q4 q5 q6 k')) (.ref (ecF q1 q2 q3 q4 q5 q6 k)) = some (decide (k' = k)))
    {t0 : Nat} (gl0 : PySem.W.nsIn K mainGlobals "MOST_SPOTS" = some (some (.int 12 t0)))
    (z0 : PySem.W.nsIn K mainGlobals "len" = some none)
    (z1 : PySem.W.nsIn K mainGlobals "range" = some none)
    (z2 : PySem.W.nsIn K mainGlobals "sorted" = some none)
    (z3 : PySem.W.nsIn K mainGlobals "set" = some none)
    (z4 : PySem.W.nsIn K mainGlobals "list" = some none)
    (z5 : PySem.W.nsIn K mainGlobals "tuple" = some none)
    (z6 : PySem.W.nsIn K mainGlobals "any" = some none)
    (z7 : PySem.W.nsIn K mainGlobals "all" = some none)
    (z8 : PySem.W.nsIn K mainGlobals "isinstance" = some none)
    (z9 : PySem.W.nsIn K mainGlobals "str" = some none)
    (z10 : PySem.W.nsIn K mainGlobals "int" = some none)
    (z11 : PySem.W.nsIn K mainGlobals "min" = some none)
    (z12 : PySem.W.nsIn K mainGlobals "max" = some none)
    (z13 : PySem.W.nsIn K mainGlobals "bool" = some none)
    (z14 : PySem.W.nsIn K mainGlobals "ValueError" = some none)
    : ∃ fd : FuncData, (∀ (s : Shared) (v : Value), BindsTo s fd ⟨[v], []⟩ [("_law_script", v)]) ∧ ∀ base : Heap, K.In base → base.Ns mainGlobals mg → FnOk P w K mg base (L2.CX P w) 8 fa fd ["_law_script"] (spLaw K) := by
  have e := hfa.symm.trans (PySem.W.mg_of X G a22)
  cases e
  have T : Txs mg := ⟨PySem.W.mg_none_of X G z0, PySem.W.mg_none_of X G z1, PySem.W.mg_none_of X G z2, PySem.W.mg_none_of X G z3, PySem.W.mg_none_of X G z4, PySem.W.mg_none_of X G z5, PySem.W.mg_none_of X G z6, PySem.W.mg_none_of X G z7, PySem.W.mg_none_of X G z8, PySem.W.mg_none_of X G z9, PySem.W.mg_none_of X G z10, PySem.W.mg_none_of X G z11, PySem.W.mg_none_of X G z12, PySem.W.mg_none_of X G z13, PySem.W.mg_none_of X G z14⟩
  have Z : Tx K mg (ecF q1 q2 q3 q4 q5 q6) CS := ⟨kall_mk X G kS (fun k => match k with | .web => kC1 | .marks => kC2 | .slide => kC3 | .unlike => kC4 | .tree => kC5 | .text => kC6) kO, ⟨_, PySem.W.mg_of X G gl0⟩⟩
  have TB : Bcl K mg Cb := ⟨⟨pg, hd, po, sa⟩, nW, nB, nH, nO, PySem.W.mg_of X G aC⟩
  refine ⟨PySem.W.fnOf "law" "law" (defArgs sLaw) (defBody sLaw) (defScope sLaw) .none kV22 dc22 pm22 an22 cd22 ct22, fun s v => .of_eq rfl, fun base _ _ => ?_⟩
  have E_look_web := fun_mk (st := s_look_web) l0 c0 k0
  have F_look_web := ok_look_web (P := P) (w := w) (base := base) E_look_web (PySem.W.mg_of X G a0) T Z
  have E_near := fun_mk (st := s_near) l1 c1 k1
  have F_near := ok_near (P := P) (w := w) (base := base) E_near (PySem.W.mg_of X G a1) T Z
  have E_is_marks := fun_mk (st := s_is_marks) l2 c2 k2
  have F_is_marks := ok_is_marks (P := P) (w := w) (base := base) E_is_marks (PySem.W.mg_of X G a2) T Z
  have E_look_marks := fun_mk (st := s_look_marks) l3 c3 k3
  have F_look_marks := ok_look_marks (P := P) (w := w) (base := base) E_look_marks (PySem.W.mg_of X G a3) T Z F_look_web F_is_marks
  have E_moved := fun_mk (st := s_moved) l4 c4 k4
  have F_moved := ok_moved (P := P) (w := w) (base := base) E_moved (PySem.W.mg_of X G a4) T Z
  have E_slides_of := fun_mk (st := s_slides_of) l5 c5 k5
  have F_slides_of := ok_slides_of (P := P) (w := w) (base := base) E_slides_of (PySem.W.mg_of X G a5) T Z F_is_marks F_moved
  have E_look_two := fun_mk (st := s_look_two) l6 c6 k6
  have F_look_two := ok_look_two (P := P) (w := w) (base := base) E_look_two (PySem.W.mg_of X G a6) T Z F_look_marks
  have E_room := fun_mk (st := s_room) l7 c7 k7
  have F_room := ok_room (P := P) (w := w) (base := base) E_room (PySem.W.mg_of X G a7) T Z F_look_marks F_near F_slides_of F_moved
  have E_fewest := fun_mk (st := s_fewest) l8 c8 k8
  have F_fewest := ok_fewest (P := P) (w := w) (base := base) E_fewest (PySem.W.mg_of X G a8) T Z F_look_two F_near F_slides_of F_moved
  have E_told := fun_mk (st := s_told) l9 c9 k9
  have F_told := ok_told (P := P) (w := w) (base := base) E_told (PySem.W.mg_of X G a9) T Z F_fewest F_room
  have E__law_cell := fun_mk (st := s__law_cell) l10 c10 k10
  have F__law_cell := ok__law_cell (P := P) (w := w) (base := base) E__law_cell (PySem.W.mg_of X G a10) T Z
  have E__law_mix := fun_mk (st := s__law_mix) l11 c11 k11
  have F__law_mix := ok__law_mix (P := P) (w := w) (base := base) E__law_mix (PySem.W.mg_of X G a11) T Z F__law_cell
  have E__law_web := fun_mk (st := s__law_web) l12 c12 k12
  have F__law_web := ok__law_web (P := P) (w := w) (base := base) E__law_web (PySem.W.mg_of X G a12) T Z F__law_mix
  have E__law_is_marks := fun_mk (st := s__law_is_marks) l13 c13 k13
  have F__law_is_marks := ok__law_is_marks (P := P) (w := w) (base := base) E__law_is_marks (PySem.W.mg_of X G a13) T Z
  have E__law_marks := fun_mk (st := s__law_marks) l14 c14 k14
  have F__law_marks := ok__law_marks (P := P) (w := w) (base := base) E__law_marks (PySem.W.mg_of X G a14) T Z F__law_mix F__law_is_marks
  have E__law_moved := fun_mk (st := s__law_moved) l15 c15 k15
  have F__law_moved := ok__law_moved (P := P) (w := w) (base := base) E__law_moved (PySem.W.mg_of X G a15) T Z
  have E__law_slides := fun_mk (st := s__law_slides) l16 c16 k16
  have F__law_slides := ok__law_slides (P := P) (w := w) (base := base) E__law_slides (PySem.W.mg_of X G a16) T Z F__law_is_marks F__law_moved
  have E__law_refusal := fun_mk (st := s__law_refusal) l17 c17 k17
  have F__law_refusal := ok__law_refusal (P := P) (w := w) (base := base) E__law_refusal (PySem.W.mg_of X G a17) T Z
  have E__law_slid := fun_mk (st := sSlid) l18 c18 k18
  have E__law_to := fun_mk (st := sTo) l19 c19 k19
  have E__law_made := fun_mk (st := sMade) l20 c20 k20
  have E__law_same := fun_mk (st := sSame) l21 c21 k21
  have E_law := fun_mk (st := sLaw) l22 c22 k22
  have D_0 := fun_mk (st := sB 0) l23 c23 k23
  have D_1 := fun_mk (st := sB 1) l24 c24 k24
  have D_2 := fun_mk (st := sB 2) l25 c25 k25
  have D_3 := fun_mk (st := sB 3) l26 c26 k26
  have D_4 := fun_mk (st := sB 4) l27 c27 k27
  have D_5 := fun_mk (st := sB 5) l28 c28 k28
  have D_6 := fun_mk (st := sB 6) l29 c29 k29
  have LS_slides_of : FnS P w K mg base "slides_of" ["web", "beside", "marks"] 3 (spSl K (ecF q1 q2 q3 q4 q5 q6)) := ⟨⟨_, _, okL_slides_of E_slides_of T Z F_is_marks F_moved, PySem.W.mg_of X G a5, k5, (E_slides_of.binds (ps := ["web", "beside", "marks"]) fun _ _ _ _ _ _ us hl => match us, hl with | [_, _, _], _ => rfl)⟩⟩
  have LF_near : FnS P w K mg base "near" ["web"] 2 (spNear K (ecF q1 q2 q3 q4 q5 q6)) := ⟨⟨_, _, okF_near E_near T Z, PySem.W.mg_of X G a1, k1, (E_near.binds (ps := ["web"]) fun _ _ _ _ _ _ us hl => match us, hl with | [_], _ => rfl)⟩⟩
  have MK : MkS P w K mg base Cb ["self", "web", "marks"] 3 (spInit Cb (ecF q1 q2 q3 q4 q5 q6)) := ⟨⟨_, _, ok_init D_0 TB T F_look_marks LF_near, ⟨mk, a23, i23, kc⟩, (D_0.binds (ps := ["self", "web", "marks"]) fun _ _ _ _ _ _ us hl => match us, hl with | [_, _, _], _ => rfl)⟩⟩
  have M_marks : MtS P w K mg base Cb "marks" ["self"] 1 (spMarks Cb) := ⟨⟨_, _, ok_marks D_1 TB, ⟨a24, i24, k24⟩, (D_1.binds (ps := ["self"]) fun _ _ _ _ _ _ us hl => match us, hl with | [_], _ => rfl)⟩⟩
  have M_slides : MtS P w K mg base Cb "slides" ["self"] 4 (spSlides Cb) := ⟨⟨_, _, ok_slides D_2 TB LS_slides_of, ⟨a25, i25, k25⟩, (D_2.binds (ps := ["self"]) fun _ _ _ _ _ _ us hl => match us, hl with | [_], _ => rfl)⟩⟩
  have M_slide : MtS P w K mg base Cb "slide" ["self", "one", "other"] 5 (spSlide Cb (ecF q1 q2 q3 q4 q5 q6)) := ⟨⟨_, _, ok_slide D_3 TB Z M_slides F_moved, ⟨a26, i26, k26⟩, (D_3.binds (ps := ["self", "one", "other"]) fun _ _ _ _ _ _ us hl => match us, hl with | [_, _, _], _ => rfl)⟩⟩
  have M_back : MtS P w K mg base Cb "back" ["self"] 2 (spBack Cb) := ⟨⟨_, _, ok_back D_4 TB F_moved, ⟨a27, i27, k27⟩, (D_4.binds (ps := ["self"]) fun _ _ _ _ _ _ us hl => match us, hl with | [_], _ => rfl)⟩⟩
  have M_row : MtS P w K mg base Cb "row" ["self"] 1 (spRow Cb) := ⟨⟨_, _, ok_row D_5 TB T, ⟨a28, i28, k28⟩, (D_5.binds (ps := ["self"]) fun _ _ _ _ _ _ us hl => match us, hl with | [_], _ => rfl)⟩⟩
  have M_to : MtS P w K mg base Cb "to" ["self", "goal"] 6 (spTo Cb (ecF q1 q2 q3 q4 q5 q6)) := ⟨⟨_, _, ok_to D_6 TB F_told, ⟨a29, i29, k29⟩, (D_6.binds (ps := ["self", "goal"]) fun _ _ _ _ _ _ us hl => match us, hl with | [_, _], _ => rfl)⟩⟩
  have G_slid : FnS P w K mg base "_law_slid" ["_law_board", "_law_one", "_law_other"] 6 (spSlid Cb) := ⟨⟨_, _, ok_slid E__law_slid TB Z M_slide F__law_refusal, PySem.W.mg_of X G a18, k18, (E__law_slid.binds (ps := ["_law_board", "_law_one", "_law_other"]) fun _ _ _ _ _ _ us hl => match us, hl with | [_, _, _], _ => rfl)⟩⟩
  have G_to : FnS P w K mg base "_law_to" ["_law_board", "_law_goal"] 7 (spLTo Cb) := ⟨⟨_, _, ok_lto E__law_to TB Z M_to F__law_refusal, PySem.W.mg_of X G a19, k19, (E__law_to.binds (ps := ["_law_board", "_law_goal"]) fun _ _ _ _ _ _ us hl => match us, hl with | [_, _], _ => rfl)⟩⟩
  have G_made : FnS P w K mg base "_law_made" ["_law_web_here", "_law_marks_here"] 5 (spMade) := ⟨⟨_, _, ok_made E__law_made TB Z MK F__law_refusal, PySem.W.mg_of X G a20, k20, (E__law_made.binds (ps := ["_law_web_here", "_law_marks_here"]) fun _ _ _ _ _ _ us hl => match us, hl with | [_, _], _ => rfl)⟩⟩
  have G_same : FnS P w K mg base "_law_same" ["_law_board", "_law_web_here", "_law_marks_here", "_law_row"] 5 (spSame Cb) := ⟨⟨_, _, ok_same E__law_same TB M_marks M_slides M_row F__law_slides, PySem.W.mg_of X G a21, k21, (E__law_same.binds (ps := ["_law_board", "_law_web_here", "_law_marks_here", "_law_row"]) fun _ _ _ _ _ _ us hl => match us, hl with | [_, _, _, _], _ => rfl)⟩⟩
  exact ok_law E_law TB T Z F__law_mix F__law_web F__law_marks F__law_slides F__law_moved F_told MK M_back G_slid G_to G_made G_same
theorem walk {l : PySem.W.OpenLaw} {q : Program} {loose : List Str} {XP : (Str → Option Value) → Heap → Prop} {YP : World → Heap → Prop} {d : DefRec} {K : Params → PySem.W.Frag} (hn : l.most = some 63) (hdf : d.params.defaults = [])
    (hY : ∀ (w : World) (h : Heap), YP w h → (K w.params).In h)
    (F : ∀ (w : World) (mg : Str → Option Value) (fa : Addr) (h : Heap), (K w.params).In h → h.Ns mainGlobals mg → mg d.name = some (.ref fa) →
      ∃ fd : FuncData, (∀ (s : Shared) (u : Value), BindsTo s fd ⟨[u], []⟩ [("_law_script", u)]) ∧ ∀ base : Heap, (K w.params).In base → base.Ns mainGlobals mg → FnOk l.prog w (K w.params) mg base (L2.CX l.prog w) 8 fa fd ["_law_script"] (spLaw (K w.params))) :
    PySem.W.WalkO q loose XP YP l.row.toRowW d [] (fun f vs => PySem.call f vs) :=
  L2.walk_of (n := 63) (k := 8) (x := "_law_script") (CX := fun w => L2.CX l.prog w) (sp := fun w => spLaw (K w.params)) hn (by decide) hdf ⟨rfl, by decide, by decide⟩ hY F (fun _ _ a ns hl _ hS => ⟨a, ns, rfl, hS, hl, fun _ => rfl⟩) fun _ _ _ _ _ ⟨_, _, _, _, _, _, _, _, _, _, _, _, z⟩ => z
end MS

open PySem PySem.W PyProof.Rows in
set_option maxRecDepth 100000 in
set_option maxHeartbeats 0 in
theorem PySem.Challenge.cw_markslide_k30_whole_boards_holds : PySem.Challenge.rw_markslide_k30_whole_boards.Holds := by
  w_on; o_law; k_head; (case hw => w_witness2)
  k_fill
  refine MS.walk (l := PySem.Challenge.rw_markslide_k30_whole_boards) rfl rfl (fun w h Y => PySem.W.kIn_of Y) ?F
  case F =>
    intro w mg fa h KX G hmg
    refine' MS.all_mk KX G hmg ?a0 ?l0 ?c0 ?k0 ?a1 ?l1 ?c1 ?k1 ?a2 ?l2 ?c2 ?k2 ?a3 ?l3 ?c3 ?k3 ?a4 ?l4 ?c4 ?k4 ?a5 ?l5 ?c5 ?k5 ?a6 ?l6 ?c6 ?k6 ?a7 ?l7 ?c7 ?k7 ?a8 ?l8 ?c8 ?k8 ?a9 ?l9 ?c9 ?k9 ?a10 ?l10 ?c10 ?k10 ?a11 ?l11 ?c11 ?k11 ?a12 ?l12 ?c12 ?k12 ?a13 ?l13 ?c13 ?k13 ?a14 ?l14 ?c14 ?k14 ?a15 ?l15 ?c15 ?k15 ?a16 ?l16 ?c16 ?k16 ?a17 ?l17 ?c17 ?k17 ?a18 ?l18 ?c18 ?k18 ?a19 ?l19 ?c19 ?k19 ?a20 ?l20 ?c20 ?k20 ?a21 ?l21 ?c21 ?k21 ?a22 ?l22 ?c22 ?k22 ?a23 ?i23 ?l23 ?c23 ?k23 ?a24 ?i24 ?l24 ?c24 ?k24 ?a25 ?i25 ?l25 ?c25 ?k25 ?a26 ?i26 ?l26 ?c26 ?k26 ?a27 ?i27 ?l27 ?c27 ?k27 ?a28 ?i28 ?l28 ?c28 ?k28 ?a29 ?i29 ?l29 ?c29 ?k29 ?aC ?pg ?hd ?po ?sa ?mk ?kc ?nW ?nB ?nH ?nO ?kS ?kC1 ?kC2 ?kC3 ?kC4 ?kC5 ?kC6 ?kO ?gl0 ?z0 ?z1 ?z2 ?z3 ?z4 ?z5 ?z6 ?z7 ?z8 ?z9 ?z10 ?z11 ?z12 ?z13 ?z14
    (case aC => k_is)
    (case a0 => k_is)
    (case l0 => k_is)
    (case c0 => k_is)
    (case k0 => k_is)
    (case a1 => k_is)
    (case l1 => k_is)
    (case c1 => k_is)
    (case k1 => k_is)
    (case a2 => k_is)
    (case l2 => k_is)
    (case c2 => k_is)
    (case k2 => k_is)
    (case a3 => k_is)
    (case l3 => k_is)
    (case c3 => k_is)
    (case k3 => k_is)
    (case a4 => k_is)
    (case l4 => k_is)
    (case c4 => k_is)
    (case k4 => k_is)
    (case a5 => k_is)
    (case l5 => k_is)
    (case c5 => k_is)
    (case k5 => k_is)
    (case a6 => k_is)
    (case l6 => k_is)
    (case c6 => k_is)
    (case k6 => k_is)
    (case a7 => k_is)
    (case l7 => k_is)
    (case c7 => k_is)
    (case k7 => k_is)
    (case a8 => k_is)
    (case l8 => k_is)
    (case c8 => k_is)
    (case k8 => k_is)
    (case a9 => k_is)
    (case l9 => k_is)
    (case c9 => k_is)
    (case k9 => k_is)
    (case a10 => k_is)
    (case l10 => k_is)
    (case c10 => k_is)
    (case k10 => k_is)
    (case a11 => k_is)
    (case l11 => k_is)
    (case c11 => k_is)
    (case k11 => k_is)
    (case a12 => k_is)
    (case l12 => k_is)
    (case c12 => k_is)
    (case k12 => k_is)
    (case a13 => k_is)
    (case l13 => k_is)
    (case c13 => k_is)
    (case k13 => k_is)
    (case a14 => k_is)
    (case l14 => k_is)
    (case c14 => k_is)
    (case k14 => k_is)
    (case a15 => k_is)
    (case l15 => k_is)
    (case c15 => k_is)
    (case k15 => k_is)
    (case a16 => k_is)
    (case l16 => k_is)
    (case c16 => k_is)
    (case k16 => k_is)
    (case a17 => k_is)
    (case l17 => k_is)
    (case c17 => k_is)
    (case k17 => k_is)
    (case a18 => k_is)
    (case l18 => k_is)
    (case c18 => k_is)
    (case k18 => k_is)
    (case a19 => k_is)
    (case l19 => k_is)
    (case c19 => k_is)
    (case k19 => k_is)
    (case a20 => k_is)
    (case l20 => k_is)
    (case c20 => k_is)
    (case k20 => k_is)
    (case a21 => k_is)
    (case l21 => k_is)
    (case c21 => k_is)
    (case k21 => k_is)
    (case a22 => k_is)
    (case l22 => k_is)
    (case c22 => k_is)
    (case k22 => k_is)
    (case a23 => k_is)
    (case i23 => k_is)
    (case l23 => k_is)
    (case c23 => k_is)
    (case k23 => k_is)
    (case a24 => k_is)
    (case i24 => k_is)
    (case l24 => k_is)
    (case c24 => k_is)
    (case k24 => k_is)
    (case a25 => k_is)
    (case i25 => k_is)
    (case l25 => k_is)
    (case c25 => k_is)
    (case k25 => k_is)
    (case a26 => k_is)
    (case i26 => k_is)
    (case l26 => k_is)
    (case c26 => k_is)
    (case k26 => k_is)
    (case a27 => k_is)
    (case i27 => k_is)
    (case l27 => k_is)
    (case c27 => k_is)
    (case k27 => k_is)
    (case a28 => k_is)
    (case i28 => k_is)
    (case l28 => k_is)
    (case c28 => k_is)
    (case k28 => k_is)
    (case a29 => k_is)
    (case i29 => k_is)
    (case l29 => k_is)
    (case c29 => k_is)
    (case k29 => k_is)
    (case pg => k_is)
    (case hd => k_is)
    (case po => k_is)
    (case sa => k_is)
    (case mk => k_is)
    (case kc => k_is)
    (case nW => k_is)
    (case nB => k_is)
    (case nH => k_is)
    (case nO => k_is)
    (case gl0 => k_is)
    (case z0 => k_is)
    (case z1 => k_is)
    (case z2 => k_is)
    (case z3 => k_is)
    (case z4 => k_is)
    (case z5 => k_is)
    (case z6 => k_is)
    (case z7 => k_is)
    (case z8 => k_is)
    (case z9 => k_is)
    (case z10 => k_is)
    (case z11 => k_is)
    (case z12 => k_is)
    (case z13 => k_is)
    (case z14 => k_is)
    (case kS => exact ⟨by k_is, by k_is, by k_is, by k_is, by k_is, by k_is⟩)
    (case kC1 => exact ⟨by k_is, by k_is, by k_exc, by k_is, by k_is, by k_is, by k_is, by k_is, by k_is, by k_is, by k_is, by k_is, by k_is⟩)
    (case kC2 => exact ⟨by k_is, by k_is, by k_exc, by k_is, by k_is, by k_is, by k_is, by k_is, by k_is, by k_is, by k_is, by k_is, by k_is⟩)
    (case kC3 => exact ⟨by k_is, by k_is, by k_exc, by k_is, by k_is, by k_is, by k_is, by k_is, by k_is, by k_is, by k_is, by k_is, by k_is⟩)
    (case kC4 => exact ⟨by k_is, by k_is, by k_exc, by k_is, by k_is, by k_is, by k_is, by k_is, by k_is, by k_is, by k_is, by k_is, by k_is⟩)
    (case kC5 => exact ⟨by k_is, by k_is, by k_exc, by k_is, by k_is, by k_is, by k_is, by k_is, by k_is, by k_is, by k_is, by k_is, by k_is⟩)
    (case kC6 => exact ⟨by k_is, by k_is, by k_exc, by k_is, by k_is, by k_is, by k_is, by k_is, by k_is, by k_is, by k_is, by k_is, by k_is⟩)
    (case kO => intro k k'; cases k <;> cases k' <;> dsimp only [MS.ecF] <;> k_is)
