import PyProof.Rows.All
import Wide.All
import OpenK.AllK
import Wide.FinOn
import KE.KStateDown
import HandS.ForMost
import HandS.Head2
import HandS.HeadHook2
import HandS.Codes
import HandS.Ends
import HandS.More
import HandS.Words
import HandS.WordsExc
import HandS.Defaults
import HandS.Head0
import HandS.Head1
import HandS.HeadEnd
import HandS.HeadHook1
import HandS.HeadHook4
import HandS.Flow
import HandS.Conv
import HandS.Zip
import HandS.Rev
import HandS.IsInst
import HandS.Star
import HandS.Exc
import HandS.ExcOwn
import HandS.Deep
import HandS.SetFor
import HandS.Text
import PyProof.FactsAll.list_0
import PyProof.FactsAll.list_3
import PyProof.FactsAll.str_0
import PyProof.FactsAll.str_5
import HandS.SortInts
import HandS.SortRule
import HandS.RaiseMore
import HandS.Small
import HandS.Strs
import HandS.WideBits
import PyProof.NoPylong
import HandS.TupAny
import HandS.Style
import HandS.TupMul
import PyProof.P3In
import PyProof.ReprRoads
import KE.DataCmp
import HandS.Wide
import HandS.TupSets
import PyProof.ReprReads
import PyProof.Rows.SortStr
import HandS.SetBool
import PyProof.SetRoads
import HandS.Flt
import PyProof.Rows.SortShellAny
import PyProof.ZipIter
import HandS.NoneIn
import KE.KUnpackStar
import KE.GoesEnum
import PyProof.ReprLen
import PyProof.FitsInt
import PySem.Challenge.RW_sortcuts_k10_whole_key_by_key
set_option Elab.async false
set_option linter.all false
set_option maxRecDepth 100000
set_option maxHeartbeats 4000000
section
/-! Ev 45: sorted of a list of pairs of ints, wherever they lie. -/
namespace Ev
open PySem PySem.Spec PyProof.Rows L2
section
variable {X : Cx}
/-- a pair of ints -/
def PrV (K : PySem.W.Frag) (H : Hp) (x : V) (p : Int × Int) : Prop := ∃ t, x = V.ref t ∧ SqT K H t [.int p.1, .int p.2]
inductive PrVs (K : PySem.W.Frag) (H : Hp) : List V → List (Int × Int) → Prop where
  | nil : PrVs K H [] []
  | cons {x : V} {p : Int × Int} {xs : List V} {ps : List (Int × Int)} : PrV K H x p → PrVs K H xs ps → PrVs K H (x :: xs) (p :: ps)
/-- sorted(xs), xs a list of pairs of ints -/
def rSortedPT (K : PySem.W.Frag) : List V → Hp → VK → Prop := fun vs H Q => ∃ (a : Addr) (xs : List V) (ps : List (Int × Int)), vs = [V.ref a] ∧ SqL K H a xs ∧ PrVs K H xs ps ∧
  ∀ ys qs d, PrVs K H ys qs → qs.Perm ps → (qs.Pairwise fun p q => SrtO.lexB q p = false) → H d = none → Q (.ref d) (upd H d (.lst ys))
theorem pair_one {h : Heap} {v : Value} {p q : Int × Int} (a : Srt.IsPair h v p.1 p.2) (b : Srt.IsPair h v q.1 q.2) : p = q := by
  obtain ⟨t, o, t1, t2, n, rfl, e1, _, e2⟩ := a
  obtain ⟨t', o', t1', t2', n', e, e1', _, e2'⟩ := b
  cases e
  rw [e1] at e1'
  cases e1'
  rw [e2] at e2'
  injection e2' with d1 _
  have d := congrArg Array.toList d1
  simp only [List.cons.injEq, Value.int.injEq] at d
  exact Prod.ext d.1.1 d.2.1.1
noncomputable def kOf (h : Heap) (v : Value) : Int × Int := open Classical in if e : ∃ p : Int × Int, Srt.IsPair h v p.1 p.2 then e.choose else (0, 0)
theorem kOf_ok {h : Heap} {v : Value} {p : Int × Int} (a : Srt.IsPair h v p.1 p.2) : kOf h v = p := by
  have e : ∃ p : Int × Int, Srt.IsPair h v p.1 p.2 := ⟨p, a⟩
  unfold kOf
  rw [dif_pos e]
  exact pair_one e.choose_spec a
theorem prvs_at {K : PySem.W.Frag} {H : Hp} : ∀ {xs : List V} {ps : List (Int × Int)}, PrVs K H xs ps → ∀ x, x ∈ xs → ∃ p, PrV K H x p
  | _, _, .cons a t, x, h => by
    rcases List.mem_cons.mp h with e | h
    · exact ⟨_, e ▸ a⟩
    · exact prvs_at t x h
theorem cr_sortedPT : CallR X (.builtin "sorted") (rSortedPT X.K) := by
  intro pins s σ H vs us Q I r h
  obtain ⟨a, xs, ps, rfl, hs, hx, q⟩ := h
  obtain ⟨its, rv, hl, hz⟩ := I.list hs
  obtain ⟨u, rfl, ru⟩ := vals1 r
  obtain rfl : u = Value.ref a := ru
  obtain ⟨e1, e2⟩ := refs_back rv fun x m => by
    obtain ⟨p, t, e, _⟩ := prvs_at hx x m
    exact ⟨t, e⟩
  have one : ∀ t p, PrV X.K H (V.ref t) p → Srt.IsPair s.heap (Value.ref t) p.1 p.2 := fun t p ⟨t', e, ht⟩ => by
    cases e
    obtain ⟨its2, r2, ⟨o, ho, hc, n, hd⟩, _⟩ := I.tuple ht
    obtain ⟨u1, u2, rfl, ri, rj⟩ := vals2 r2
    obtain ⟨t1, rfl⟩ := ri
    obtain ⟨t2, rfl⟩ := rj
    exact ⟨t, o, t1, t2, n, rfl, ho, hc, hd⟩
  have all : ∀ {us : List Value} {ps : List (Int × Int)}, (∀ u ∈ us, ∃ a, u = Value.ref a) → PrVs X.K H (us.map backV) ps → ps = us.map (kOf s.heap) := by
    intro us
    induction us with
    | nil => intro ps _ h; cases h; rfl
    | cons u us ih =>
      intro ps hr h
      obtain ⟨t, rfl⟩ := hr u List.mem_cons_self
      cases h with
      | cons h1 h2 =>
        rw [List.map_cons, ← ih (fun v hv => hr v (List.mem_cons_of_mem _ hv)) h2, kOf_ok (one t _ h1)]
  have ep := all e2 (e1 ▸ hx)
  have hk : ∀ v ∈ its, PrV X.K H (backV v) (kOf s.heap v) := fun v hv => by
    obtain ⟨t, rfl⟩ := e2 v hv
    have hm : V.ref t ∈ xs := by rw [e1]; exact List.mem_map.mpr ⟨_, hv, rfl⟩
    obtain ⟨p, h1⟩ := prvs_at hx _ hm
    rw [kOf_ok (one t p h1)]
    exact h1
  refine SrtO.sorted_pairsO (k := kOf s.heap) hl.isList (by rw [← rv.length]; exact hz) (fun v hv => ?_) fun h' d out h1 h2 kp hd hn => ?_
  · obtain ⟨t, rfl⟩ := e2 v hv
    exact one t _ (hk _ hv)
  · have h3 : ∀ u ∈ out, ∃ a, u = Value.ref a := fun u hu => e2 u (h2.perm.mem_iff.mp hu)
    have h4 : ∀ {us : List Value}, (∀ u ∈ us, u ∈ its) → PrVs X.K H (us.map backV) (us.map (kOf s.heap)) := by
      intro us
      induction us with
      | nil => exact fun _ => .nil
      | cons u us ih => exact fun hu => .cons (hk u (hu u List.mem_cons_self)) (ih fun v hv => hu v (List.mem_cons_of_mem _ hv))
    obtain ⟨n, hn⟩ := hn
    refine ⟨.ref d, upd H d (.lst (out.map backV)), I.laid (t' := s.toks) kp hd ⟨?_, out, n, vals_back h3, hn⟩, rfl, q _ (out.map (kOf s.heap)) d (h4 fun u hu => h2.perm.mem_iff.mp hu) ?_ ?_ (I.hok.fresh hd)⟩
    · rw [List.length_map, h2.perm.length_eq, ← rv.length]
      exact hz
    · rw [ep]
      exact h2.perm.map _
    · exact List.pairwise_map.mpr h1
end
end Ev

end
section
/-! Ev 1: own values, own small program text, a plain evaluator. No machine in sight. -/
namespace Ev
open PySem PyProof.Rows
abbrev P := PyData
/-- a value: plain data; a mutable list by its number in the store; the law's script; a set of ints; a set of tuples of ints (how many); a def or class by its number -/
inductive D where
  | p (d : P) | loc (i : Nat) | scr (ns : List Int) | iset (ns : List Int) | tset (n : Nat) | fn (f : Nat)
/-- an object of the store -/
inductive Ob where
  | lst (xs : List D) | dead
abbrev Store := List Ob
/-- how an evaluation ends: a value, an exception of class c with one value (or none), or not known -/
inductive Res (α : Type) where
  | ok (a : α) (s : Store) | exn (c : Nat) (v : Option P) (s : Store) | bad
abbrev M (α : Type) := Store → Res α
abbrev Env := List (Option D)
def M.ret {α : Type} (a : α) : M α := fun s => .ok a s
def M.bad {α : Type} : M α := fun _ => .bad
def M.bnd {α β : Type} (m : M α) (f : α → M β) : M β := fun s => match m s with
  | .ok a s' => f a s'
  | .exn c v s' => .exn c v s'
  | .bad => .bad
def M.opt {α : Type} : Option α → M α
  | some a => M.ret a
  | none => M.bad
/-- where no exception may leave: it is not known -/
def M.calm {α : Type} (m : M α) : M α := fun s => match m s with
  | .ok a s' => .ok a s'
  | _ => .bad

inductive Bop where
  | add | sub | mul | fdiv | mod | pow
inductive Cop where
  | eq | ne | lt | le | gt | ge | isin | notin | is | isnot
inductive Ty where
  | int | bool | str | tuple | list
  deriving DecidableEq
inductive Blt where
  | len | abs | divmod | max2 | min2 | min3 | maxl | minl | sum | all | any | tuple | list | sorted | repr | str | int | bool | set
  deriving DecidableEq
inductive Mth where
  | append | extend | pop | popAt | index | remove | count | insert
  | join | partition | split | startswith | upper
  deriving DecidableEq

mutual
inductive E where
  | var (i : Nat)
  | lit (d : P)
  | neg (a : E)
  | not (a : E)
  | bin (o : Bop) (a b : E)
  | cmp (o : Cop) (a b : E)
  | chain (o o' : Cop) (a b c : E)
  | and (a b : E)
  | or (a b : E)
  | ite (c a b : E)
  | tup (es : Es)
  | lst (es : Es)
  | idx (a i : E)
  | slc (a : E) (lo hi : Eo)
  | rev (a : E)
  | call (f : Nat) (es : Es)
  | callk (f : Nat) (pm : List Nat) (es ks : Es)
  | blt (b : Blt) (es : Es)
  | mth (m : Mth) (o : E) (es : Es)
  | isi (a : E) (ts : List Ty)
  | lstI (it : I)
  | tupI (it : I)
  | comp (e : E) (t : Tg) (it : I) (c : Eo)
  | comp2 (e : E) (t : Tg) (it : I) (c : Eo) (t' : Tg) (it' : I) (c' : Eo)
  | setc (e : E) (t : Tg) (it : I) (c : Eo)
  | opn (e : E)
  | compV (e : E) (t : Tg) (i : Nat) (c : Eo)
  | stop
inductive Es where
  | nil | cons (e : E) (es : Es) | star (e : E) (es : Es)
inductive Eo where
  | none | some (e : E)
inductive I where
  | e (a : E) | rng1 (a : E) | rng2 (a b : E) | enum (a : E) | zip (a b : E) | rev (a : E)
inductive Tg where
  | name (i : Nat) | tup (ts : Tgs) | star (ts : Tgs) (i : Nat) (us : Tgs) | sub (o i : E)
inductive Tgs where
  | nil | cons (t : Tg) (ts : Tgs)
end
mutual
inductive S where
  | asg (t : Tg) (e : E)
  | asgL (i : Nat) (e : E)
  | par (is : List Nat) (es : Es)
  | aug (i : Nat) (o : Bop) (e : E)
  | expr (e : E)
  | ret (e : E)
  | retL (e : E)
  | retN
  | ife (c : E) (a b : Ss)
  | for (t : Tg) (it : I) (b : Ss)
  | whl (n : Nat) (c : E) (b : Ss)
  | rse (c : Nat) (e : Eo)
  | frz (i : Nat)
  | pass
  | stop
inductive Ss where
  | nil | cons (s : S) (ss : Ss)
end

/-! ### operations on data -/
abbrev line : Nat := 16777216
def truP : P → Option Bool
  | .none => some false
  | .bool b => some b
  | .int i => some (i != 0)
  | .str x => if x.length ≤ line then some ((x.length : Int) != 0) else none
  | .list xs => some (!xs.isEmpty)
  | .tuple xs => some (!xs.isEmpty)
  | .dict _ => none
def mulSm (i j : Int) : Bool := (decide (-(2 ^ 64) < i) && decide (i < 2 ^ 64)) || (decide (-(2 ^ 64) < j) && decide (j < 2 ^ 64))
def mulOk (i j : Int) : Bool := mulSm i j || decide (i.natAbs.log2 + j.natAbs.log2 < 1000000)
def dmOk (j : Int) : Bool := decide (0 < j) && decide (j.natAbs.log2 < 9000)
def divOk (j : Int) : Bool := decide (0 < j) && decide (j.natAbs.log2 < 9000)
def binP : Bop → P → P → Option P
  | .add, .int i, .int j => some (.int (i + j))
  | .add, .str x, .str y => if x.length + y.length ≤ line then some (.str (x ++ y)) else none
  | .add, .tuple xs, .tuple ys => if xs.length + ys.length ≤ line then some (.tuple (xs ++ ys)) else none
  | .add, .list xs, .list ys => if xs.length + ys.length ≤ line then some (.list (xs ++ ys)) else none
  | .sub, .int i, .int j => some (.int (i - j))
  | .mul, .int i, .int j => if mulOk i j then some (.int (i * j)) else none
  | .mul, .tuple xs, .int k => if (xs.isEmpty || k == 1) && decide (-(2 ^ 63) ≤ k) && decide (k < 2 ^ 63) then some (.tuple xs)
    else if !xs.isEmpty && decide (2 ≤ k) && decide (xs.length * k.toNat ≤ line) then some (.tuple (List.replicate k.toNat xs).flatten)
    else if !xs.isEmpty && decide (k ≤ 0) && decide (-(2 ^ 63) ≤ k) then some (.tuple []) else none
  | .mul, .list xs, .int k => if decide (-(2 ^ 63) ≤ k) && decide (k < 2 ^ 63) && decide (xs.length * k.toNat ≤ line) then some (.list (List.replicate k.toNat xs).flatten) else none
  | .fdiv, .int i, .int j => if divOk j then some (.int (i / j)) else none
  | .mod, .int i, .int j => if decide (0 < j) then some (.int (i % j)) else none
  | .pow, .int i, .int j => if decide (0 ≤ j) && decide (j ≤ 1000000) && decide (i.natAbs < 2 ^ 64) then some (.int (i ^ j.toNat)) else none
  | _, _, _ => none
/-- a tuple of anything beside the empty one -/
def eqE (x y : P) : Option Bool := match x, y with
  | .tuple xs, .tuple [] => some xs.isEmpty
  | _, _ => none
def eqP (x y : P) : Option Bool := match eqE x y with
  | some b => some b
  | none => if SeqAt.shaped x && SeqAt.shaped y then some (PyData.eqv x y) else none
def inP (x y : P) : Option Bool := match y with
  | .list ys => if SeqAt.shaped x && SeqAt.shaped (.list ys) then some (ys.any fun z => PyData.eqv z x) else none
  | .tuple ys => if SeqAt.shaped x && SeqAt.shaped (.tuple ys) then some (ys.any fun z => PyData.eqv z x) else none
  | .str z => (match x with
    | .str c => (match c.cps.toList with
      | [k] => some (decide (k ∈ z.cps.toList))
      | _ => none)
    | _ => none)
  | _ => none
def isP : P → P → Option Bool
  | .none, .none => some true
  | _, .none => some false
  | .bool a, .bool b => some (decide (a = b))
  | _, _ => none
def cmpP : Cop → P → P → Option Bool
  | .eq, x, y => eqP x y
  | .ne, x, y => (eqP x y).map (!·)
  | .lt, .int i, .int j => some (decide (i < j))
  | .le, .int i, .int j => some (decide (i ≤ j))
  | .gt, .int i, .int j => some (decide (j < i))
  | .ge, .int i, .int j => some (decide (j ≤ i))
  | .gt, .tuple xs, .tuple ys => if SeqAt.shaped (.tuple xs) && SeqAt.shaped (.tuple ys) && PySem.W.alike (.tuple xs) (.tuple ys) then some (PySem.W.dataLt (.tuple ys) (.tuple xs)) else none
  | .isin, x, y => inP x y
  | .notin, x, y => (inP x y).map (!·)
  | .is, x, y => isP x y
  | .isnot, x, y => (isP x y).map (!·)
  | _, _, _ => none
def idxP : P → P → Option P
  | .list xs, .int i => L2.atI xs i
  | .tuple xs, .int i => L2.atI xs i
  | .str z, .int i => if z.length ≤ line then (L2.atI z.cps.toList i).map fun c => .str ⟨#[c]⟩ else none
  | _, _ => none
def cutL {α : Type} (xs : List α) (lo hi : Option Int) : List α := (xs.drop (HT.sIx xs.length 0 lo)).take (HT.sIx xs.length xs.length hi - HT.sIx xs.length 0 lo)
def slcP (x : P) (lo hi : Option Int) : Option P := match x with
  | .list xs => some (.list (cutL xs lo hi))
  | .tuple xs => some (.tuple (cutL xs lo hi))
  | .str z => if z.length ≤ line then some (.str (L2.cutS z lo hi)) else none
  | _ => none
def revP : P → Option P
  | .list xs => some (.list xs.reverse)
  | .tuple xs => some (.tuple xs.reverse)
  | _ => none
def tyP : P → Ty → Bool
  | .bool _, .bool => true
  | .bool _, .int => true
  | .int _, .int => true
  | .str _, .str => true
  | .list _, .list => true
  | .tuple _, .tuple => true
  | _, _ => false
def toInts : List P → Option (List Int)
  | [] => some []
  | .int i :: r => (toInts r).map (i :: ·)
  | _ :: _ => none
def toBools : List P → Option (List Bool)
  | [] => some []
  | .bool i :: r => (toBools r).map (i :: ·)
  | _ :: _ => none
def toStrs : List P → Option (List Str)
  | [] => some []
  | .str i :: r => (toStrs r).map (i :: ·)
  | _ :: _ => none
def smallI (i : Int) : Bool := decide (i.natAbs.log2 < 1920)
def maxL : List Int → Option Int
  | [] => none
  | x :: xs => some (xs.foldl max x)
def minL : List Int → Option Int
  | [] => none
  | x :: xs => some (xs.foldl min x)
/-- in order, each once -/
def sortI (xs : List Int) : List Int := xs.mergeSort (fun a b => decide (a ≤ b))
/-- each once, where it is met first -/
def onceI : List Int → List Int
  | [] => []
  | x :: xs => x :: (onceI xs).filter fun y => !decide (y = x)

/-- pairs of ints -/
def toPairs : List P → Option (List (Int × Int))
  | [] => some []
  | .tuple [.int i, .int j] :: r => (toPairs r).map fun ps => (i, j) :: ps
  | _ => none
def leP (p q : Int × Int) : Bool := decide (p.1 < q.1 ∨ (p.1 = q.1 ∧ p.2 ≤ q.2))
def sortPr (ps : List (Int × Int)) : List (Int × Int) := ps.mergeSort leP
def pairP (p : Int × Int) : P := .tuple [.int p.1, .int p.2]
/-- sorted of a list: ints, or pairs of ints -/
def sortL (xs : List P) : Option P := match toInts xs with
  | some ns => some (.list ((sortI ns).map PyData.int))
  | none => (toPairs xs).map fun ps => .list ((sortPr ps).map pairP)
/-- sorted of a tuple: ints, or two texts -/
def sortT (xs : List P) : Option P := match toInts xs with
  | some ns => some (.list ((sortI ns).map PyData.int))
  | none => match xs with
    | [.str a, .str b] => if sortedS [a, b] && !sortedS [b, a] then some (.list [.str a, .str b]) else if sortedS [b, a] && !sortedS [a, b] then some (.list [.str b, .str a]) else none
    | _ => none
/-- one-value built-ins over data -/
def bltP : Blt → List P → Option P
  | .len, [.list xs] => some (.int xs.length)
  | .len, [.tuple xs] => some (.int xs.length)
  | .len, [.str z] => if z.length ≤ line then some (.int z.length) else none
  | .abs, [.int i] => some (.int (if i < 0 then -i else i))
  | .divmod, [.int i, .int j] => if dmOk j then some (.tuple [.int (i / j), .int (i % j)]) else none
  | .max2, [.int i, .int j] => some (.int (if j > i then j else i))
  | .min2, [.int i, .int j] => some (.int (if j < i then j else i))
  | .maxl, [.list xs] => (toInts xs).bind fun ns => (maxL ns).map PyData.int
  | .minl, [.list xs] => (toInts xs).bind fun ns => (minL ns).map PyData.int
  | .sum, [.list xs] => (toInts xs).map fun ns => .int ns.sum
  | .all, [.list xs] => (toBools xs).map fun bs => .bool (bs.all id)
  | .any, [.list xs] => (toBools xs).map fun bs => .bool (bs.any id)
  | .tuple, [.list xs] => some (.tuple xs)
  | .tuple, [.tuple xs] => some (.tuple xs)
  | .list, [.list xs] => some (.list xs)
  | .list, [.tuple xs] => some (.list xs)
  | .sorted, [.list xs] => sortL xs
  | .sorted, [.tuple xs] => sortT xs
  | .min3, [.int i, .int j, .int k] => some (.int (if k < (if j < i then j else i) then k else (if j < i then j else i)))
  | .repr, [d] => if PyData.showable d && !PyData.hasDict d && decide (d.shown.length ≤ line) && decide (d.depth ≤ 60) then some (.str d.shown) else none
  | .str, [.int i] => if smallI i then some (.str (toString i)) else none
  | .str, [.str z] => some (.str z)
  | .int, [.int i] => some (.int i)
  | .int, [.bool b] => some (.int (if b then 1 else 0))
  | .bool, [.int i] => some (.bool (i != 0))
  | .bool, [.bool b] => some (.bool b)
  | .bool, [.list xs] => some (.bool (!xs.isEmpty))
  | _, _ => none

/-! ### values -/
def pures : List D → Option (List P)
  | [] => some []
  | .p d :: r => (pures r).map (d :: ·)
  | _ :: _ => none
/-- read as data, as it stands -/
def view : D → M P
  | .p d => M.ret d
  | .loc i => fun s => match s[i]? with
    | some (.lst xs) => (match pures xs with
      | some ps => .ok (.list ps) s
      | none => .bad)
    | _ => .bad
  | .scr ns => M.ret (.list (ns.map PyData.int))
  | _ => M.bad
/-- taken for good: a list of the store ends there -/
def take : D → M P
  | .p d => M.ret d
  | .loc i => fun s => match s[i]? with
    | some (.lst xs) => (match pures xs with
      | some ps => .ok (.list ps) (s.set i .dead)
      | none => .bad)
    | _ => .bad
  | _ => M.bad
def takes : List D → M (List P)
  | [] => M.ret []
  | x :: xs => (take x).bnd fun p => (takes xs).bnd fun ps => M.ret (p :: ps)
def views : List D → M (List P)
  | [] => M.ret []
  | x :: xs => (view x).bnd fun p => (views xs).bnd fun ps => M.ret (p :: ps)
def isScr : D → Bool
  | .scr _ => true
  | _ => false
/-- truth -/
def truD (x : D) : M Bool := (view x).bnd fun p => M.opt (truP p)
def binD (o : Bop) (x y : D) : M D := if isScr x || isScr y then M.bad else (view x).bnd fun p => (view y).bnd fun q => (M.opt (binP o p q)).bnd fun r => M.ret (.p r)
/-- what += and the like are asked of -/
def augP : Bop → P → P → Option P
  | .add, .int i, .int j => some (.int (i + j))
  | .add, .str x, .str y => if x.length + y.length ≤ line then some (.str (x ++ y)) else none
  | .sub, .int i, .int j => some (.int (i - j))
  | .mul, .int i, .int j => if mulOk i j then some (.int (i * j)) else none
  | _, _, _ => none
def augD (o : Bop) (x y : D) : M D := match x, y with
  | .p a, .p b => (M.opt (augP o a b)).bnd fun r => M.ret (.p r)
  | _, _ => M.bad
def cmpD (o : Cop) (x y : D) : M D := (view x).bnd fun p => (view y).bnd fun q => (M.opt (cmpP o p q)).bnd fun r => M.ret (.p (.bool r))
def idxD (x i : D) : M D := match x with
  | .loc l => fun s => match s[l]?, i with
    | some (.lst xs), .p (.int k) => (match L2.atI xs k with
      | some d => .ok d s
      | none => .bad)
    | _, _ => .bad
  | _ => (view x).bnd fun p => (view i).bnd fun q => (M.opt (idxP p q)).bnd fun r => M.ret (.p r)
def partD : Option D → M (Option Int)
  | none => M.ret none
  | some (.p (.int i)) => M.ret (some i)
  | _ => M.bad
/-- a set of the ints of a list -/
def setG (ys : List P) : M D := match toInts ys with
  | some ns => if ns.length < 4000 then M.ret (.iset (onceI ns)) else M.bad
  | none => M.bad
def toTups : List P → Option (List (List Int))
  | [] => some []
  | .tuple xs :: r => match toInts xs, toTups r with
    | some ns, some q => some (ns :: q)
    | _, _ => none
  | _ :: _ => none
/-- each once -/
def onceT : List (List Int) → List (List Int)
  | [] => []
  | x :: xs => x :: (onceT xs).filter fun y => !decide (y = x)
def isTup1 : List P → Bool
  | .tuple _ :: _ => true
  | _ => false
def setTup (ys : List P) : M D := match toTups ys with
  | some ks => if ks.length < 64 then M.ret (.tset (onceT ks).length) else M.bad
  | none => M.bad
def setD (p : P) : M D := match p with
  | .list ys => if isTup1 ys then setTup ys else setG ys
  | .tuple ys => setG ys
  | _ => M.bad
def bltD (b : Blt) (xs : List D) : M D :=
  match b, xs with
  | .set, [x] => (view x).bnd setD
  | .set, _ => M.bad
  | .len, [.iset ns] => M.ret (.p (.int ns.length))
  | .len, [.tset n] => M.ret (.p (.int n))
  | .sorted, [.iset ns] => if ns.length < 64 then M.ret (.p (.list ((sortI ns).map PyData.int))) else M.bad
  | _, _ => (views xs).bnd fun ps => (M.opt (bltP b ps)).bnd fun r => M.ret (.p r)
/-- a list of the store is written; base: the store's length at the def's entry (older lists take plain data alone) -/
def fits (base i : Nat) : D → Bool
  | .p _ => true
  | .loc _ => decide (base ≤ i)
  | _ => false
def putAt (i : Nat) (xs : List D) : M Unit := fun s => .ok () (s.set i (.lst xs))
def lstAt (x : D) : M (Nat × List D) := match x with
  | .loc i => fun s => match s[i]? with
    | some (.lst xs) => .ok (i, xs) s
    | _ => .bad
  | _ => M.bad
def findE (d : P) : List P → Nat → Option Nat
  | [], _ => none
  | x :: xs, n => if PyData.eqv x d then some n else findE d xs (n + 1)
def isListM : Mth → Bool
  | .append | .extend | .pop | .popAt | .index | .remove | .count | .insert => true
  | _ => false
/-- what a method is asked of, before its arguments are reckoned -/
def mthChk (m : Mth) (x : D) : M Unit := match x with
  | .loc i => fun s => if isListM m then (match s[i]? with
    | some (.lst _) => .ok () s
    | _ => .bad) else .bad
  | .p (.list _) => if isListM m then M.ret () else M.bad
  | .p (.str _) => if isListM m then M.bad else M.ret ()
  | _ => M.bad
def mthD (base : Nat) (m : Mth) (o : D) (xs : List D) : M D :=
  match m, xs with
  | .append, [x] => (lstAt o).bnd fun (i, ys) => if fits base i x && decide (ys.length < line) then (putAt i (ys ++ [x])).bnd fun _ => M.ret (.p .none) else M.bad
  | .extend, [.p (.list zs)] => (lstAt o).bnd fun (i, ys) => if decide (ys.length + zs.length ≤ line) then (putAt i (ys ++ zs.map D.p)).bnd fun _ => M.ret (.p .none) else M.bad
  | .pop, [] => (lstAt o).bnd fun (i, ys) => match ys[ys.length - 1]? with
    | some y => (putAt i ys.dropLast).bnd fun _ => M.ret y
    | none => M.bad
  | .popAt, [.p (.int k)] => (lstAt o).bnd fun (i, ys) => if decide (0 ≤ k) && decide (k < 2 ^ 62) then (match ys[k.toNat]? with
    | some y => (putAt i (ys.eraseIdx k.toNat)).bnd fun _ => M.ret y
    | none => M.bad) else M.bad
  | .remove, [.p (.int k)] => (lstAt o).bnd fun (i, ys) => match (pures ys).bind toInts with
    | some ns => if decide (k ∈ ns) then (putAt i ((ns.erase k).map fun n => D.p (.int n))).bnd fun _ => M.ret (.p .none) else M.bad
    | none => M.bad
  | .index, [.p d] => (view o).bnd fun p => match p with
    | .list ys => if SeqAt.shaped (.list ys) && SeqAt.shaped d then (match findE d ys 0 with
      | some k => M.ret (.p (.int k))
      | none => M.bad) else M.bad
    | _ => M.bad
  | .join, [x] => (view x).bnd fun p => match o, p with
    | .p (.str a), .list ys => (match toStrs ys with
      | some ts => if decide ((ts.map (·.length)).sum + ts.length * a.length ≤ line) then M.ret (.p (.str (Txt.join a ts))) else M.bad
      | none => M.bad)
    | _, _ => M.bad
  | .partition, [.p (.str b)] => (match o with
    | .p (.str a) => if (!(b.length == 0)) && decide (a.length ≤ line) then M.ret (.p (.tuple [.str (Txt.partition a b).1, .str (Txt.partition a b).2.1, .str (Txt.partition a b).2.2])) else M.bad
    | _ => M.bad)
  | .split, [.p (.str b)] => (match o with
    | .p (.str a) => if (!(b.length == 0)) && decide (a.length + 2 ≤ line) then M.ret (.p (.list ((Txt.split a b).map PyData.str))) else M.bad
    | _ => M.bad)
  | .startswith, [.p (.str b)] => (match o with
    | .p (.str a) => M.ret (.p (.bool (Txt.startswith a b)))
    | _ => M.bad)
  | _, _ => M.bad

/-! ### open lists that are walked as they stand: they must stand so at each turn -/
mutual
def sameP : P → P → Bool
  | .none, .none => true
  | .bool a, .bool b => decide (a = b)
  | .int a, .int b => decide (a = b)
  | .str a, .str b => decide (a = b)
  | .list xs, .list ys => samePs xs ys
  | .tuple xs, .tuple ys => samePs xs ys
  | _, _ => false
def samePs : List P → List P → Bool
  | [], [] => true
  | x :: xs, y :: ys => sameP x y && samePs xs ys
  | _, _ => false
end
def liveV (σ : List (Option D)) (i : Nat) : M (Nat × List P) := fun s => match σ[i]? with
  | some (some (.loc l)) => (match s[l]? with
    | some (.lst ds) => (match pures ds with
      | some ps => .ok (l, ps) s
      | none => .bad)
    | _ => .bad)
  | _ => .bad
def chkL (l : Nat) (ps : List P) : M Unit := fun s => match s[l]? with
  | some (.lst ds) => (match pures ds with
    | some qs => if samePs qs ps then .ok () s else .bad
    | none => .bad)
  | _ => .bad
/-! ### iterables, targets -/
def rngI (lo : Int) (n : Nat) : List P := (List.range n).map fun (k : Nat) => PyData.int (lo + (k : Int))
def rngOk (i : Int) : Bool := decide (-(2 ^ 62) ≤ i) && decide (i < 2 ^ 62)
def items : P → Option (List P)
  | .list xs => some xs
  | .tuple xs => some xs
  | .str z => some (z.cps.toList.map fun c => PyData.str ⟨#[c]⟩)
  | _ => none
def enumL (n : Nat) : List P → List P
  | [] => []
  | x :: xs => .tuple [.int n, x] :: enumL (n + 1) xs
def zipL (xs ys : List P) : List P := List.zipWith (fun x y => .tuple [x, y]) xs ys
def wipeE (σ : Env) : List Nat → Env
  | [] => σ
  | v :: vs => (wipeE σ vs).set v none
mutual
def slotsT : Tg → List Nat
  | .name i => [i]
  | .tup ts => slotsTs ts
  | .star ts i us => slotsTs ts ++ i :: slotsTs us
  | .sub _ _ => []
def slotsTs : Tgs → List Nat
  | .nil => []
  | .cons t ts => slotsT t ++ slotsTs ts
end
def lenTs : Tgs → Nat
  | .nil => 0
  | .cons _ ts => lenTs ts + 1

/-- a fresh list of data stays open -/
def opnD (x : D) : M D := match x with
  | .p (.list ps) => fun s => .ok (.loc s.length) (s ++ [.lst (ps.map D.p)])
  | _ => M.bad
/-- a def's call: number, arguments -/
abbrev CF := Nat → List D → M D

/-- the turns of a comprehension -/
def compGo (f : P → M (List P)) : List P → List P → M (List P)
  | [], acc => M.ret acc
  | x :: xs, acc => (f x).bnd fun ys => if decide (acc.length + ys.length < line) then compGo f xs (acc ++ ys) else M.bad

mutual
def evE (cf : CF) (b : Nat) : E → Env → M D
  | .var i, σ => match σ[i]? with
    | some (some d) => M.ret d
    | _ => M.bad
  | .lit d, _ => M.ret (.p d)
  | .stop, _ => M.bad
  | .neg a, σ => (evE cf b a σ).bnd fun x => match x with
    | .p (.int i) => M.ret (.p (.int (-i)))
    | _ => M.bad
  | .not a, σ => (evE cf b a σ).bnd fun x => (truD x).bnd fun t => M.ret (.p (.bool (!t)))
  | .bin o a c, σ => (evE cf b a σ).bnd fun x => (evE cf b c σ).bnd fun y => binD o x y
  | .cmp o a c, σ => (evE cf b a σ).bnd fun x => (evE cf b c σ).bnd fun y => cmpD o x y
  | .chain o o' a c d, σ => (evE cf b a σ).bnd fun x => (evE cf b c σ).bnd fun y => (cmpD o x y).bnd fun r => match r with
    | .p (.bool true) => (evE cf b d σ).bnd fun z => cmpD o' y z
    | .p (.bool false) => M.ret (.p (.bool false))
    | _ => M.bad
  | .and a c, σ => (evE cf b a σ).bnd fun x => (truD x).bnd fun t => if t then evE cf b c σ else M.ret x
  | .or a c, σ => (evE cf b a σ).bnd fun x => (truD x).bnd fun t => if t then M.ret x else evE cf b c σ
  | .ite c x y, σ => (evE cf b c σ).bnd fun z => (truD z).bnd fun t => if t then evE cf b x σ else evE cf b y σ
  | .tup es, σ => (evEs cf b es σ).bnd fun xs => if decide (xs.length ≤ line) then (takes xs).bnd fun ps => M.ret (.p (.tuple ps)) else M.bad
  | .lst es, σ => (evEs cf b es σ).bnd fun xs => if decide (xs.length ≤ line) then (takes xs).bnd fun ps => M.ret (.p (.list ps)) else M.bad
  | .idx a i, σ => (evE cf b a σ).bnd fun x => (evE cf b i σ).bnd fun y => idxD x y
  | .slc a lo hi, σ => (evE cf b a σ).bnd fun x => (evEo cf b lo σ).bnd fun l => (partD l).bnd fun l' => (evEo cf b hi σ).bnd fun h => (partD h).bnd fun h' => (view x).bnd fun p => (M.opt (slcP p l' h')).bnd fun r => M.ret (.p r)
  | .rev a, σ => (evE cf b a σ).bnd fun x => (view x).bnd fun p => (M.opt (revP p)).bnd fun r => M.ret (.p r)
  | .call f es, σ => (evEs cf b es σ).bnd fun xs => cf f xs
  | .callk f pm es ks, σ => (evEs cf b es σ).bnd fun xs => (evEs cf b ks σ).bnd fun ys => cf f (pm.filterMap fun i => (xs ++ ys)[i]?)
  | .blt o es, σ => (evEs cf b es σ).bnd fun xs => bltD o xs
  | .mth m o es, σ => (evE cf b o σ).bnd fun x => (mthChk m x).bnd fun _ => (evEs cf b es σ).bnd fun xs => mthD b m x xs
  | .isi a ts, σ => (evE cf b a σ).bnd fun x => if isScr x then M.bad else (view x).bnd fun p => M.ret (.p (.bool (ts.any (tyP p))))
  | .lstI it, σ => ((evI cf b it σ).bnd fun xs => if decide (xs.length ≤ line) then M.ret xs else M.bad).bnd fun ys => M.ret (.p (.list ys))
  | .tupI it, σ => ((evI cf b it σ).bnd fun xs => if decide (xs.length ≤ line) then M.ret xs else M.bad).bnd fun ys => M.ret (.p (.tuple ys))
  | .opn e, σ => (evE cf b e σ).bnd opnD
  | .comp e t it c, σ => (evI cf b it σ).bnd fun xs => (compGo (fun x => M.calm ((evTg cf b t (wipeE σ (slotsT t)) (.p x)).bnd fun σ' => (evC cf b c σ').bnd fun k =>
      if k then (evE cf b e σ').bnd fun y => (take y).bnd fun q => M.ret [q] else M.ret [])) xs []).bnd fun ys => M.ret (.p (.list ys))
  | .compV e t i c, σ => (liveV σ i).bnd fun lx => (compGo (fun x => (chkL lx.1 lx.2).bnd fun _ => M.calm ((evTg cf b t (wipeE σ (slotsT t)) (.p x)).bnd fun σ' => (evC cf b c σ').bnd fun k =>
      if k then (evE cf b e σ').bnd fun y => (take y).bnd fun q => M.ret [q] else M.ret [])) lx.2 []).bnd fun ys => (chkL lx.1 lx.2).bnd fun _ => M.ret (.p (.list ys))
  | .comp2 e t it c t' it' c', σ => (evI cf b it σ).bnd fun xs => (compGo (fun x => M.calm ((evTg cf b t (wipeE σ (slotsT t ++ slotsT t')) (.p x)).bnd fun σ' => (evC cf b c σ').bnd fun k =>
      if k then (evI cf b it' σ').bnd fun zs => compGo (fun z => M.calm ((evTg cf b t' (wipeE σ' (slotsT t')) (.p z)).bnd fun σ'' => (evC cf b c' σ'').bnd fun k' =>
        if k' then (evE cf b e σ'').bnd fun y => (take y).bnd fun q => M.ret [q] else M.ret [])) zs [] else M.ret [])) xs []).bnd fun ys => M.ret (.p (.list ys))
  | .setc e t it c, σ => (evI cf b it σ).bnd fun xs => (compGo (fun x => M.calm ((evTg cf b t (wipeE σ (slotsT t)) (.p x)).bnd fun σ' => (evC cf b c σ').bnd fun k =>
      if k then (evE cf b e σ').bnd fun y => (take y).bnd fun q => M.ret [q] else M.ret [])) xs []).bnd setG
def evEs (cf : CF) (b : Nat) : Es → Env → M (List D)
  | .nil, _ => M.ret []
  | .cons e es, σ => (evE cf b e σ).bnd fun x => (evEs cf b es σ).bnd fun xs => M.ret (x :: xs)
  | .star e es, σ => (evE cf b e σ).bnd fun x => (view x).bnd fun p => (M.opt (match p with
    | .list ys => some ys
    | .tuple ys => some ys
    | _ => none)).bnd fun ys => (evEs cf b es σ).bnd fun xs => M.ret (ys.map D.p ++ xs)
def evEo (cf : CF) (b : Nat) : Eo → Env → M (Option D)
  | .none, _ => M.ret Option.none
  | .some e, σ => (evE cf b e σ).bnd fun x => M.ret (Option.some x)
/-- a comprehension's test -/
def evC (cf : CF) (b : Nat) : Eo → Env → M Bool
  | .none, _ => M.ret true
  | .some e, σ => (evE cf b e σ).bnd truD
def evI (cf : CF) (b : Nat) : I → Env → M (List P)
  | .e a, σ => (evE cf b a σ).bnd fun x => (match x with
    | .loc _ => M.bad
    | _ => view x).bnd fun p => M.opt (items p)
  | .rng1 a, σ => (evE cf b a σ).bnd fun x => match x with
    | .p (.int j) => if rngOk j then M.ret (rngI 0 j.toNat) else M.bad
    | _ => M.bad
  | .rng2 a c, σ => (evE cf b a σ).bnd fun x => (evE cf b c σ).bnd fun y => match x, y with
    | .p (.int i), .p (.int j) => if rngOk i && rngOk j then M.ret (rngI i (j - i).toNat) else M.bad
    | _, _ => M.bad
  | .enum a, σ => (evE cf b a σ).bnd fun x => match x with
    | .p (.list xs) => M.ret (enumL 0 xs)
    | .p (.tuple xs) => M.ret (enumL 0 xs)
    | _ => M.bad
  | .zip a c, σ => (evE cf b a σ).bnd fun x => (evE cf b c σ).bnd fun y => match x, y with
    | .p (.list xs), .p (.list ys) => M.ret (zipL xs ys)
    | .p (.tuple xs), .p (.tuple ys) => M.ret (zipL xs ys)
    | .p (.tuple xs), .p (.list ys) => M.ret (zipL xs ys)
    | _, _ => M.bad
  | .rev a, σ => (evE cf b a σ).bnd fun x => match x with
    | .p (.list xs) => M.ret xs.reverse
    | .p (.tuple xs) => M.ret xs.reverse
    | _ => M.bad
def evTg (cf : CF) (b : Nat) : Tg → Env → D → M Env
  | .name i, σ, d => M.ret (σ.set i (some d))
  | .tup ts, σ, d => match d with
    | .p (.tuple xs) => if xs.length = lenTs ts then evTgs cf b ts σ (xs.map D.p) else M.bad
    | .p (.list xs) => if xs.length = lenTs ts then evTgs cf b ts σ (xs.map D.p) else M.bad
    | _ => M.bad
  | .star ts i us, σ, d => match d with
    | .p (.tuple xs) => if lenTs ts + lenTs us ≤ xs.length then
        (evTgs cf b ts σ ((xs.take (lenTs ts)).map D.p)).bnd fun σ1 =>
        evTgs cf b us (σ1.set i (some (.p (.list ((xs.drop (lenTs ts)).take (xs.length - lenTs ts - lenTs us)))))) ((xs.drop (xs.length - lenTs us)).map D.p) else M.bad
    | _ => M.bad
  | .sub o i, σ, d => (M.calm (evE cf b o σ)).bnd fun x => (M.calm (evE cf b i σ)).bnd fun y => (lstAt x).bnd fun (l, xs) => match y with
    | .p (.int k) => if fits b l d && decide (0 ≤ k) && decide (k < xs.length) then (putAt l (xs.set k.toNat d)).bnd fun _ => M.ret σ else M.bad
    | _ => M.bad
def evTgs (cf : CF) (b : Nat) : Tgs → Env → List D → M Env
  | .nil, σ, _ => M.ret σ
  | .cons t ts, σ, ds => match ds with
    | d :: ds' => (evTg cf b t σ d).bnd fun σ' => evTgs cf b ts σ' ds'
    | [] => M.bad
end

def setAll : Env → List Nat → List D → Env
  | σ, i :: is, d :: ds => setAll (σ.set i (some d)) is ds
  | σ, _, _ => σ
/-- how a statement ends -/
inductive SR where
  | nx (σ : Env) (s : Store) | rt (d : D) (s : Store) | exn (c : Nat) (v : Option P) (σ : Env) (s : Store) | bad
/-- an evaluation within a statement: an exception leaves the names as they are -/
def Res.st {α : Type} (σ : Env) (r : Res α) (f : α → Store → SR) : SR := match r with
  | .ok a s => f a s
  | .exn c v s => .exn c v σ s
  | .bad => .bad
def SR.nxt (r : SR) (f : Env → Store → SR) : SR := match r with
  | .nx σ s => f σ s
  | r => r
def forGo (f : P → Env → Store → SR) : List P → Env → Store → SR
  | [], σ, s => .nx σ s
  | x :: xs, σ, s => (f x σ s).nxt fun σ' s' => forGo f xs σ' s'
def whlGo (c : Env → M Bool) (f : Env → Store → SR) : Nat → Env → Store → SR
  | 0, _, _ => .bad
  | n + 1, σ, s => Res.st σ (c σ s) fun t s' => if t then (f σ s').nxt fun σ' s'' => whlGo c f n σ' s'' else .nx σ s'
/-- a fresh list of the store, from a text that makes one -/
def evL (cf : CF) (b : Nat) (e : E) (σ : Env) : M (List D) := match e with
  | .lst es => (evEs cf b es σ).bnd fun xs => if decide (xs.length ≤ line) then M.ret xs else M.bad
  | .comp e t it c => (evE cf b (.comp e t it c) σ).bnd fun x => match x with
    | .p (.list ps) => M.ret (ps.map D.p)
    | _ => M.bad
  | .lstI it => (evI cf b it σ).bnd fun xs => M.ret (xs.map D.p)
  | .blt .list es => (evE cf b (.blt .list es) σ).bnd fun x => match x with
    | .p (.list ps) => M.ret (ps.map D.p)
    | _ => M.bad
  | .blt .sorted es => (evE cf b (.blt .sorted es) σ).bnd fun x => match x with
    | .p (.list ps) => M.ret (ps.map D.p)
    | _ => M.bad
  | _ => M.bad
mutual
def evS (cf : CF) (b : Nat) : S → Env → Store → SR
  | .asg t e, σ, s => Res.st σ (evE cf b e σ s) fun d s' => Res.st σ (M.calm (evTg cf b t σ d) s') fun σ' s'' => .nx σ' s''
  | .asgL i e, σ, s => Res.st σ (evL cf b e σ s) fun xs s' => .nx (σ.set i (some (.loc s'.length))) (s' ++ [.lst xs])
  | .par is es, σ, s => Res.st σ (evEs cf b es σ s) fun ds s' => if ds.length = is.length then .nx (setAll σ is ds) s' else .bad
  | .aug i o e, σ, s => match σ[i]? with
    | some (some x) => Res.st σ (evE cf b e σ s) fun y s' => Res.st σ (augD o x y s') fun z s'' => .nx (σ.set i (some z)) s''
    | _ => .bad
  | .expr e, σ, s => Res.st σ (evE cf b e σ s) fun _ s' => .nx σ s'
  | .ret e, σ, s => Res.st σ (evE cf b e σ s) fun d s' => .rt d s'
  | .retL e, σ, s => Res.st σ (evL cf b e σ s) fun xs s' => .rt (.loc s'.length) (s' ++ [.lst xs])
  | .retN, _, s => .rt (.p .none) s
  | .ife c x y, σ, s => Res.st σ (((evE cf b c σ).bnd truD) s) fun t s' => if t then evSs cf b x σ s' else evSs cf b y σ s'
  | .for t it x, σ, s => Res.st σ (evI cf b it σ s) fun xs s' => forGo (fun p σ' s'' => Res.st σ' (M.calm (evTg cf b t σ' (.p p)) s'') fun σ2 s2 => evSs cf b x σ2 s2) xs σ s'
  | .whl n c x, σ, s => whlGo (fun σ' => (evE cf b c σ').bnd truD) (fun σ' s' => evSs cf b x σ' s') n σ s
  | .rse c e, σ, s => Res.st σ (((evEo cf b e σ).bnd fun o => match o with
      | some d => (take d).bnd fun p => M.ret (some p)
      | none => M.ret none) s) fun v s' => .exn c v σ s'
  | .frz i, σ, s => match σ[i]? with
    | some (some d) => Res.st σ (take d s) fun p s' => .nx (σ.set i (some (.p p))) s'
    | _ => .bad
  | .pass, σ, s => .nx σ s
  | .stop, _, _ => .bad
def evSs (cf : CF) (b : Nat) : Ss → Env → Store → SR
  | .nil, σ, s => .nx σ s
  | .cons x xs, σ, s => (evS cf b x σ s).nxt fun σ' s' => evSs cf b xs σ' s'
end

/-- a def of the text: how many parameters, how many names, its body -/
structure FD where
  ps : Nat
  ns : Nat
  body : Ss
abbrev Tab := Nat → Option FD
/-- what leaves a def: data; an older list; a new list, which stands first behind the older ones then (lo), or is taken as data -/
def leave (lo : Bool) (s0 : Store) (d : D) (s : Store) : Res D := match d with
  | .loc i => if i < s0.length then .ok d (s.take s0.length) else
    (match s[i]? with
    | some (.lst xs) => (match pures xs with
      | some ps => if lo then .ok (.loc s0.length) (s.take s0.length ++ [.lst xs]) else .ok (.p (.list ps)) (s.take s0.length)
      | none => .bad)
    | _ => .bad)
  | d => .ok d (s.take s0.length)
def callF (T : Tab) (L : Nat → Bool) : Nat → CF
  | 0 => fun _ _ => M.bad
  | k + 1 => fun f xs => match T f with
    | none => M.bad
    | some d => fun s => if xs.length = d.ps then
      (match evSs (callF T L k) s.length d.body (xs.map some ++ List.replicate (d.ns - d.ps) none) s with
      | .rt d s' => leave (L f) s d s'
      | .nx _ s' => leave (L f) s (.p .none) s'
      | .exn c v _ s' => .exn c v (s'.take s.length)
      | .bad => .bad) else .bad
end Ev

end
section
/-! Ev 2: own values over the layer's abstract heap. -/
namespace Ev
abbrev St := L2.St
open PySem PySem.Spec PyProof.Rows L2
/-- what is fixed: the written part, the world, the text -/
structure KW where
  f : PySem.W.Frag
  w : World
  pr : Program
instance : Coe KW PySem.W.Frag := ⟨KW.f⟩

/-! ### data -/
mutual
inductive Rp (K : KW) (H : Hp) (ex : List Addr) : V → P → Prop where
  | non : Rp K H ex .non .none
  | bl (b : Bool) : Rp K H ex (.bl b) (.bool b)
  | int (i : Int) : Rp K H ex (.int i) (.int i)
  | str (x : Str) : Rp K H ex (.str x) (.str x)
  | lst {a : Addr} {vs : List V} {ps : List P} : H a = some (.lst vs) → a ∉ ex → Rps K H ex vs ps → Rp K H ex (.ref a) (.list ps)
  | tup {a : Addr} {vs : List V} {ps : List P} : SqT K H a vs → Rps K H ex vs ps → Rp K H ex (.ref a) (.tuple ps)
  | dct {a : Addr} : H a = some (.dK []) → a ∉ ex → Rp K H ex (.ref a) (.dict [])
inductive Rps (K : KW) (H : Hp) (ex : List Addr) : List V → List P → Prop where
  | nil : Rps K H ex [] []
  | cons {v : V} {vs : List V} {p : P} {ps : List P} : Rp K H ex v p → Rps K H ex vs ps → Rps K H ex (v :: vs) (p :: ps)
end
abbrev Bt := List (Option Addr)
/-- from one state of the heap to a later one -/
structure Ext (ex : List Addr) (bt : Bt) (H : Hp) (ex' : List Addr) (bt' : Bt) (H' : Hp) : Prop where
  keep : ∀ a o, H a = some o → some a ∉ bt → H' a = some o
  dom : ∀ a o, H a = some o → ∃ o', H' a = some o'
  exs : ∀ a, a ∈ ex' → a ∈ ex ∨ H a = none
  exk : ∀ a, a ∈ ex → a ∈ ex' ∨ some a ∈ bt
  old : ∀ (i : Nat) (x : Option Addr), bt[i]? = some x → bt'[i]? = some x ∨ bt'[i]? = some none
  new : ∀ (i : Nat) (a : Addr), bt'[i]? = some (some a) → bt[i]? = some (some a) ∨ (bt.length ≤ i ∧ H a = none)
def ScrAt (K : KW) (H : Hp) (a : Addr) (ns : List Int) : Prop :=
  (∃ o, H a = some (.frz o (.lst (ns.map V.int)))) ∨
    ∃ (o : Obj) (its : Array Value) (n : Nat), K.f.lookup a = some o ∧ o.cls = .type "list" ∧ o.dict = none ∧ o.data = .seq its n ∧ its.size ≤ sizeLine ∧ Vals (ns.map V.int) its.toList
theorem ScrAt.sq {K : KW} {H : Hp} {a : Addr} {ns : List Int} (h : ScrAt K H a ns) : SqL K H a (ns.map V.int) := by
  rcases h with ⟨o, h⟩ | h
  · exact .inl (.inr ⟨o, h⟩)
  · exact .inr h
def RpD (K : KW) (H : Hp) (ex : List Addr) (bt : Bt) (v : V) : D → Prop
  | .p d => Rp K H ex v d
  | .loc i => i < bt.length ∧ ∀ a, bt[i]? = some (some a) → v = .ref a
  | .scr ns => ∃ a, v = .ref a ∧ ScrAt K H a ns
  | .iset ns => ∃ a S, v = .ref a ∧ a ∉ ex ∧ H a = some (SetO K.w a S ns.length) ∧ (∀ k : Int, S k = true ↔ k ∈ ns) ∧ ns.Nodup
  | .tset n => ∃ a L, v = .ref a ∧ a ∉ ex ∧ H a = some (SetTO K.pr K.w a L) ∧ ((L.map (·.2)).Nodup → L.length = n)
  | .fn _ => False
abbrev RpDs (K : KW) (H : Hp) (ex : List Addr) (bt : Bt) : List V → List D → Prop := Paired (RpD K H ex bt)
/-- the store -/
structure SRel (K : KW) (base : List Nat) (ex : List Addr) (bt : Bt) (st : Store) (H : Hp) : Prop where
  len : bt.length = st.length
  low : ∀ b, b ∈ base → b ≤ st.length
  live : ∀ a, some a ∈ bt → a ∈ ex
  inj : ∀ (i j : Nat) (a : Addr), bt[i]? = some (some a) → bt[j]? = some (some a) → i = j
  exH : ∀ a, a ∈ ex → ∃ o, H a = some o
  isl : ∀ a, some a ∈ bt → ∃ vs, H a = some (.lst vs)
  obj : ∀ (i : Nat) (xs : List D), st[i]? = some (.lst xs) → ∃ a vs, bt[i]? = some (some a) ∧ H a = some (.lst vs) ∧ RpDs K H ex bt vs xs
  dead : ∀ (i : Nat), st[i]? = some .dead → bt[i]? = some none
  wf : ∀ b, b ∈ base → ∀ (i : Nat) (xs : List D), st[i]? = some (.lst xs) → ∀ j, D.loc j ∈ xs → i < b → j < b
/-- the names -/
structure EnvR (K : KW) (H : Hp) (ex : List Addr) (bt : Bt) (env : Env) (σ : St) : Prop where
  len : env.length = σ.length
  get : ∀ (i : Nat) (d : D), env[i]? = some (some d) → ∃ v, σ[i]? = some (some v) ∧ RpD K H ex bt v d

section
variable {K : KW} {base : List Nat} {ex ex1 ex2 : List Addr} {bt bt1 bt2 : Bt} {st : Store} {H H1 H2 : Hp}
theorem Ext.refl : Ext ex bt H ex bt H :=
  ⟨fun _ _ h _ => h, fun _ o h => ⟨o, h⟩, fun _ h => .inl h, fun _ h => .inl h, fun _ _ h => .inl h, fun _ _ h => .inl h⟩
theorem Ext.notin (E : Ext ex bt H ex1 bt1 H1) {a : Addr} {o : HO} (h : H a = some o) (n : some a ∉ bt) : some a ∉ bt1 := fun q => by
  obtain ⟨i, hi⟩ := List.mem_iff_getElem?.mp q
  rcases E.new i a hi with e | ⟨_, e⟩
  · exact n (List.mem_of_getElem? e)
  · rw [h] at e; cases e
theorem Ext.trans (S : SRel K base ex bt st H) (E : Ext ex bt H ex1 bt1 H1) (F : Ext ex1 bt1 H1 ex2 bt2 H2) : Ext ex bt H ex2 bt2 H2 := by
  refine ⟨fun a o h n => F.keep a o (E.keep a o h n) (E.notin h n), fun a o h => ?_, fun a h => ?_, fun a h => ?_, fun i x h => ?_, fun i a h => ?_⟩
  · obtain ⟨o', h'⟩ := E.dom a o h
    exact F.dom a o' h'
  · rcases F.exs a h with h | h
    · exact E.exs a h
    · cases q : H a with
      | none => exact .inr rfl
      | some o =>
        obtain ⟨o', h'⟩ := E.dom a o q
        rw [h] at h'; cases h'
  · rcases E.exk a h with h1 | h1
    · rcases F.exk a h1 with h2 | h2
      · exact .inl h2
      · obtain ⟨i, hi⟩ := List.mem_iff_getElem?.mp h2
        rcases E.new i a hi with e | ⟨_, e⟩
        · exact .inr (List.mem_of_getElem? e)
        · obtain ⟨o, ho⟩ := S.exH a h
          rw [e] at ho; cases ho
    · exact .inr h1
  · rcases E.old i x h with h1 | h1
    · exact F.old i x h1
    · rcases F.old i none h1 with h2 | h2 <;> exact .inr h2
  · rcases F.new i a h with h1 | ⟨h1, h2⟩
    · exact E.new i a h1
    · refine .inr ⟨?_, ?_⟩
      · refine Nat.le_trans ?_ h1
        refine Nat.le_of_not_lt fun q => ?_
        obtain ⟨x, hx⟩ : ∃ x, bt[bt1.length]? = some x := ⟨_, List.getElem?_eq_getElem q⟩
        rcases E.old _ _ hx with e | e
        · exact absurd (List.getElem?_eq_some_iff.mp e).1 (Nat.lt_irrefl _)
        · exact absurd (List.getElem?_eq_some_iff.mp e).1 (Nat.lt_irrefl _)
      · cases q : H a with
        | none => rfl
        | some o =>
          obtain ⟨o', h'⟩ := E.dom a o q
          rw [h2] at h'; cases h'
theorem Ext.length (E : Ext ex bt H ex1 bt1 H1) : bt.length ≤ bt1.length := by
  refine Nat.le_of_not_lt fun q => ?_
  obtain ⟨x, hx⟩ : ∃ x, bt[bt1.length]? = some x := ⟨_, List.getElem?_eq_getElem q⟩
  rcases E.old _ _ hx with e | e
  · exact absurd (List.getElem?_eq_some_iff.mp e).1 (Nat.lt_irrefl _)
  · exact absurd (List.getElem?_eq_some_iff.mp e).1 (Nat.lt_irrefl _)
theorem SRel.notLive (S : SRel K base ex bt st H) {a : Addr} {o : HO} (h : H a = some o) (n : ∀ vs, o ≠ .lst vs) : some a ∉ bt := fun q => by
  obtain ⟨vs, e⟩ := S.isl a q
  rw [h] at e
  exact n vs (Option.some.inj e)
theorem _root_.Ev.sqT_ext (S : SRel K base ex bt st H) (E : Ext ex bt H ex1 bt1 H1) {a : Addr} {vs : List V} (h : SqT K H a vs) : SqT K H1 a vs := by
  rcases h with (h | ⟨o, h⟩) | h
  · exact .inl (.inl (E.keep _ _ h (S.notLive h (by intro _ z; cases z))))
  · exact .inl (.inr ⟨o, E.keep _ _ h (S.notLive h (by intro _ z; cases z))⟩)
  · exact .inr h
mutual
theorem Rp.ext (S : SRel K base ex bt st H) (E : Ext ex bt H ex1 bt1 H1) : ∀ {v : V} {p : P}, Rp K H ex v p → Rp K H1 ex1 v p
  | _, _, .non => .non
  | _, _, .bl b => .bl b
  | _, _, .int b => .int b
  | _, _, .str b => .str b
  | _, _, .lst (a := a) h n r => .lst (E.keep _ _ h fun q => n (S.live _ q)) (fun q => by
      rcases E.exs a q with z | z
      · exact n z
      · rw [h] at z; cases z) (Rps.ext S E r)
  | _, _, .tup h r => .tup (sqT_ext S E h) (Rps.ext S E r)
  | _, _, .dct (a := a) h n => .dct (E.keep _ _ h fun q => n (S.live _ q)) (fun q => by
      rcases E.exs a q with z | z
      · exact n z
      · rw [h] at z; cases z)
theorem Rps.ext (S : SRel K base ex bt st H) (E : Ext ex bt H ex1 bt1 H1) : ∀ {vs : List V} {ps : List P}, Rps K H ex vs ps → Rps K H1 ex1 vs ps
  | _, _, .nil => .nil
  | _, _, .cons r t => .cons (Rp.ext S E r) (Rps.ext S E t)
end
theorem ScrAt.ext (S : SRel K base ex bt st H) (E : Ext ex bt H ex1 bt1 H1) {a : Addr} {ns : List Int} (h : ScrAt K H a ns) : ScrAt K H1 a ns := by
  rcases h with ⟨o, h⟩ | h
  · exact .inl ⟨o, E.keep _ _ h (S.notLive h (by intro _ z; cases z))⟩
  · exact .inr h
theorem RpD.ext (S : SRel K base ex bt st H) (E : Ext ex bt H ex1 bt1 H1) : ∀ {v : V} {d : D}, RpD K H ex bt v d → RpD K H1 ex1 bt1 v d
  | _, .p _, h => Rp.ext S E h
  | _, .loc i, ⟨h1, h2⟩ => ⟨Nat.lt_of_lt_of_le h1 E.length, fun a q => by
      rcases E.new i a q with z | ⟨z, _⟩
      · exact h2 a z
      · exact absurd h1 (Nat.not_lt_of_le z)⟩
  | _, .scr _, ⟨a, e, h⟩ => ⟨a, e, h.ext S E⟩
  | _, .iset _, ⟨a, T, e, h1, h2, h3⟩ => ⟨a, T, e, (fun q => (E.exs a q).elim h1 fun z => by rw [h2] at z; cases z), E.keep _ _ h2 fun q => h1 (S.live _ q), h3⟩
  | _, .tset _, ⟨a, T, e, h1, h2, h3⟩ => ⟨a, T, e, (fun q => (E.exs a q).elim h1 fun z => by rw [h2] at z; cases z), E.keep _ _ h2 fun q => h1 (S.live _ q), h3⟩
  | _, .fn _, h => h.elim
theorem RpDs.ext (S : SRel K base ex bt st H) (E : Ext ex bt H ex1 bt1 H1) {vs : List V} {ds : List D} (h : RpDs K H ex bt vs ds) : RpDs K H1 ex1 bt1 vs ds :=
  Paired.mapP h fun _ _ => RpD.ext S E
theorem EnvR.ext (S : SRel K base ex bt st H) (E : Ext ex bt H ex1 bt1 H1) {env : Env} {σ : St} (h : EnvR K H ex bt env σ) : EnvR K H1 ex1 bt1 env σ :=
  ⟨h.len, fun i d e => let ⟨v, h1, h2⟩ := h.get i d e; ⟨v, h1, h2.ext S E⟩⟩
theorem EnvR.set {env : Env} {σ : St} (h : EnvR K H ex bt env σ) {i : Nat} {v : V} {d : D} (r : RpD K H ex bt v d) : EnvR K H ex bt (env.set i (some d)) (σ.set i (some v)) := by
  refine ⟨by rw [List.length_set, List.length_set]; exact h.len, fun j e hj => ?_⟩
  by_cases q : i = j
  · subst q
    by_cases hl : i < env.length
    · rw [List.getElem?_set_self hl] at hj
      cases hj
      exact ⟨v, List.getElem?_set_self (by rw [← h.len]; exact hl), r⟩
    · rw [List.getElem?_eq_none (by rw [List.length_set]; exact Nat.le_of_not_lt hl)] at hj
      cases hj
  · rw [List.getElem?_set_ne q] at hj ⊢
    exact h.get j e hj
theorem Rps.length : ∀ {vs : List V} {ps : List P}, Rps K H ex vs ps → vs.length = ps.length
  | _, _, .nil => rfl
  | _, _, .cons _ t => congrArg (· + 1) (Rps.length t)
theorem Rps.append : ∀ {vs ws : List V} {ps qs : List P}, Rps K H ex vs ps → Rps K H ex ws qs → Rps K H ex (vs ++ ws) (ps ++ qs)
  | _, _, _, _, .nil, h => h
  | _, _, _, _, .cons r t, h => .cons r (Rps.append t h)
theorem Rps.get : ∀ {vs : List V} {ps : List P} {i : Nat} {v : V}, Rps K H ex vs ps → vs[i]? = some v → ∃ p, ps[i]? = some p ∧ Rp K H ex v p
  | _, _, _, _, .nil, e => by simp at e
  | _, _, 0, _, .cons r _, e => by simp at e; subst e; exact ⟨_, rfl, r⟩
  | _, _, i + 1, v, .cons _ t, e => by
    obtain ⟨p, h1, h2⟩ := Rps.get (i := i) (v := v) t (by simpa using e)
    exact ⟨p, by simpa using h1, h2⟩
theorem Rps.get' : ∀ {vs : List V} {ps : List P} {i : Nat} {p : P}, Rps K H ex vs ps → ps[i]? = some p → ∃ v, vs[i]? = some v ∧ Rp K H ex v p
  | _, _, _, _, .nil, e => by simp at e
  | _, _, 0, _, .cons r _, e => by simp at e; subst e; exact ⟨_, rfl, r⟩
  | _, _, i + 1, v, .cons _ t, e => by
    obtain ⟨p, h1, h2⟩ := Rps.get' (i := i) (p := v) t (by simpa using e)
    exact ⟨p, by simpa using h1, h2⟩
theorem Rps.take : ∀ {vs : List V} {ps : List P} (n : Nat), Rps K H ex vs ps → Rps K H ex (vs.take n) (ps.take n)
  | _, _, 0, _ => .nil
  | _, _, _ + 1, .nil => .nil
  | _, _, n + 1, .cons r t => .cons r (Rps.take n t)
theorem Rps.drop : ∀ {vs : List V} {ps : List P} (n : Nat), Rps K H ex vs ps → Rps K H ex (vs.drop n) (ps.drop n)
  | _, _, 0, r => r
  | _, _, _ + 1, .nil => .nil
  | _, _, n + 1, .cons _ t => Rps.drop n t
theorem Rps.reverse : ∀ {vs : List V} {ps : List P}, Rps K H ex vs ps → Rps K H ex vs.reverse ps.reverse
  | _, _, .nil => .nil
  | _, _, .cons r t => by
    rw [List.reverse_cons, List.reverse_cons]
    exact Rps.append (Rps.reverse t) (.cons r .nil)
theorem Rps.replicate (h : Rps K H ex vs ps) : ∀ n : Nat, Rps K H ex (List.replicate n vs).flatten (List.replicate n ps).flatten
  | 0 => .nil
  | n + 1 => by
    rw [List.replicate_succ, List.replicate_succ, List.flatten_cons, List.flatten_cons]
    exact h.append (Rps.replicate h n)

mutual
theorem Rp.dp : ∀ {v : V} {p : P}, Rp K H ex v p → p.hasDict = false → Dp K H v p
  | _, _, .non, _ => .non
  | _, _, .bl b, _ => .bl b
  | _, _, .int b, _ => .int b
  | _, _, .str b, _ => .str b
  | _, _, .lst h _ r, q => .lst (SqL.of h) (Rps.dp r (by simpa [PyData.hasDict] using q))
  | _, _, .tup h r, q => .tup h (Rps.dp r (by simpa [PyData.hasDict] using q))
  | _, _, .dct _ _, q => by simp [PyData.hasDict] at q
theorem Rps.dp : ∀ {vs : List V} {ps : List P}, Rps K H ex vs ps → PyData.hasDictAll ps = false → DpAll K H vs ps
  | _, _, .nil, _ => .nil
  | _, _, .cons r t, q => by
    have q' := q
    simp only [PyData.hasDictAll, Bool.or_eq_false_iff] at q'
    exact .cons (Rp.dp r q'.1) (Rps.dp t q'.2)
end
theorem Rps.ints : ∀ {vs : List V} {ps : List P} {ns : List Int}, Rps K H ex vs ps → toInts ps = some ns → vs = ns.map V.int
  | _, _, ns, .nil, e => by
    simp only [toInts, Option.some.injEq] at e
    subst e; rfl
  | _, _, ns, .cons r t, e => by
    cases r with
    | int i =>
      simp only [toInts, Option.map_eq_some_iff] at e
      obtain ⟨ms, h1, h2⟩ := e
      subst h2
      rw [Rps.ints t h1]; rfl
    | _ => simp [toInts] at e
theorem Rps.bools : ∀ {vs : List V} {ps : List P} {ns : List Bool}, Rps K H ex vs ps → toBools ps = some ns → vs = ns.map V.bl
  | _, _, ns, .nil, e => by
    simp only [toBools, Option.some.injEq] at e
    subst e; rfl
  | _, _, ns, .cons r t, e => by
    cases r with
    | bl i =>
      simp only [toBools, Option.map_eq_some_iff] at e
      obtain ⟨ms, h1, h2⟩ := e
      subst h2
      rw [Rps.bools t h1]; rfl
    | _ => simp [toBools] at e
theorem Rps.strs : ∀ {vs : List V} {ps : List P} {ns : List Str}, Rps K H ex vs ps → toStrs ps = some ns → vs = ns.map V.str
  | _, _, ns, .nil, e => by
    simp only [toStrs, Option.some.injEq] at e
    subst e; rfl
  | _, _, ns, .cons r t, e => by
    cases r with
    | str i =>
      simp only [toStrs, Option.map_eq_some_iff] at e
      obtain ⟨ms, h1, h2⟩ := e
      subst h2
      rw [Rps.strs t h1]; rfl
    | _ => simp [toStrs] at e
theorem Rps.of_ints : ∀ ns : List Int, Rps K H ex (ns.map V.int) (ns.map PyData.int)
  | [] => .nil
  | n :: r => .cons (.int n) (Rps.of_ints r)
/-- what is read as it stands -/
inductive Cur (K : KW) (H : Hp) (ex : List Addr) (v : V) : P → Prop where
  | p {d : P} (h : Rp K H ex v d) : Cur K H ex v d
  | l {a : Addr} {vs : List V} {ps : List P} (e : v = .ref a) (h : SqL K H a vs) (r : Rps K H ex vs ps) : Cur K H ex v (.list ps)
theorem Cur.dp {v : V} {p : P} (h : Cur K H ex v p) (q : p.hasDict = false) : Dp K H v p := by
  cases h with
  | p h => exact h.dp q
  | l e h r => subst e; exact .lst h (r.dp (by simpa [PyData.hasDict] using q))
theorem Cur.list {v : V} {ps : List P} (h : Cur K H ex v (.list ps)) : ∃ a vs, v = .ref a ∧ SqL K H a vs ∧ Rps K H ex vs ps := by
  cases h with
  | p h => cases h with
    | lst h _ r => exact ⟨_, _, rfl, SqL.of h, r⟩
  | l e h r => exact ⟨_, _, e, h, r⟩
theorem Cur.tup {v : V} {ps : List P} (h : Cur K H ex v (.tuple ps)) : ∃ a vs, v = .ref a ∧ SqT K H a vs ∧ Rps K H ex vs ps := by
  cases h with
  | p h => cases h with
    | tup h r => exact ⟨_, _, rfl, h, r⟩
theorem Cur.int {v : V} {i : Int} (h : Cur K H ex v (.int i)) : v = .int i := by
  cases h with
  | p h => cases h; rfl
theorem Cur.str {v : V} {i : Str} (h : Cur K H ex v (.str i)) : v = .str i := by
  cases h with
  | p h => cases h; rfl
theorem Cur.bool {v : V} {i : Bool} (h : Cur K H ex v (.bool i)) : v = .bl i := by
  cases h with
  | p h => cases h; rfl
theorem Cur.non {v : V} (h : Cur K H ex v .none) : v = .non := by
  cases h with
  | p h => cases h; rfl
theorem Cur.ext (S : SRel K base ex bt st H) {v : V} {p : P} (h : Rp K H ex v p) : Cur K H ex v p := .p h
end

/-! ### evaluations and the layer's readings -/
section
variable {K : KW} {XR : Nat → Option P → XK → Hp → Prop} {base : List Nat} {α β ν μ : Type}
/-- what is wanted where an evaluation ends so -/
def Cont (K : KW) (XR : Nat → Option P → XK → Hp → Prop) (base : List Nat) (Y : XK) (R : Hp → List Addr → Bt → ν → α → Prop) (ex : List Addr) (bt : Bt) (H : Hp) (r : Res α) (Q : ν → Hp → Prop) : Prop :=
  match r with
  | .ok a st' => ∀ v H' ex' bt', Ext ex bt H ex' bt' H' → SRel K base ex' bt' st' H' → R H' ex' bt' v a → Q v H'
  | .exn c x st' => ∀ H' ex' bt', Ext ex bt H ex' bt' H' → SRel K base ex' bt' st' H' → XR c x Y H'
  | .bad => False
variable {Y : XK} {R : Hp → List Addr → Bt → ν → α → Prop} {R' : Hp → List Addr → Bt → μ → β → Prop} {ex ex1 : List Addr} {bt bt1 : Bt} {H H1 : Hp} {st : Store}
theorem Cont.mono {r : Res α} {Q Q' : ν → Hp → Prop} (h : Cont K XR base Y R ex bt H r Q) (hq : ∀ v H, Q v H → Q' v H) : Cont K XR base Y R ex bt H r Q' := by
  cases r with
  | ok a s => exact fun v H' ex' bt' E S q => hq _ _ (h v H' ex' bt' E S q)
  | exn c x s => exact h
  | bad => exact h
theorem Cont.later {r : Res α} {Q : ν → Hp → Prop} (S : SRel K base ex bt st H) (E : Ext ex bt H ex1 bt1 H1) (h : Cont K XR base Y R ex bt H r Q) : Cont K XR base Y R ex1 bt1 H1 r Q := by
  cases r with
  | ok a s => exact fun v H' ex' bt' F S' q => h v H' ex' bt' (E.trans S F) S' q
  | exn c x s => exact fun H' ex' bt' F S' => h H' ex' bt' (E.trans S F) S'
  | bad => exact h
/-- a step, then the rest -/
theorem Cont.bnd {m : M α} {f : α → M β} {Q : μ → Hp → Prop} (S : SRel K base ex bt st H) (h : Cont K XR base Y R' ex bt H (m.bnd f st) Q) :
    Cont K XR base Y R ex bt H (m st) fun v H1 => ∃ a ex1 bt1 st1, Ext ex bt H ex1 bt1 H1 ∧ SRel K base ex1 bt1 st1 H1 ∧ R H1 ex1 bt1 v a ∧ Cont K XR base Y R' ex1 bt1 H1 (f a st1) Q := by
  unfold M.bnd at h
  cases e : m st with
  | ok a s =>
    rw [e] at h
    exact fun v H' ex' bt' E S' r => ⟨a, ex', bt', s, E, S', r, Cont.later S E h⟩
  | exn c x s =>
    rw [e] at h
    exact h
  | bad =>
    rw [e] at h
    exact h
/-- an expression's reading -/
def rdE (K : KW) (XR : Nat → Option P → XK → Hp → Prop) (base : List Nat) (W : WX) (m : Env → M D) : TE := fun σ H Q =>
  ∃ ex bt st env, SRel K base ex bt st H ∧ EnvR K H ex bt env σ ∧ Cont K XR base (fun c d H => W c d σ H) (RpD K) ex bt H (m env st) Q
def rdA (K : KW) (XR : Nat → Option P → XK → Hp → Prop) (base : List Nat) (W : WX) (m : Env → M (List D)) : TA := fun σ H Q =>
  ∃ ex bt st env, SRel K base ex bt st H ∧ EnvR K H ex bt env σ ∧ Cont K XR base (fun c d H => W c d σ H) (RpDs K) ex bt H (m env st) Q
def rdT (K : KW) (XR : Nat → Option P → XK → Hp → Prop) (base : List Nat) (W : WX) (m : Env → M Bool) : TT := fun σ H Q =>
  ∃ ex bt st env, SRel K base ex bt st H ∧ EnvR K H ex bt env σ ∧ Cont K XR base (fun c d H => W c d σ H) (fun _ _ _ (v : Bool) b => v = b) ex bt H (m env st) Q
theorem Cont.ret {a : α} {v : ν} {Q : ν → Hp → Prop} (S : SRel K base ex bt st H) (h : Cont K XR base Y R ex bt H (M.ret a st) Q) (r : R H ex bt v a) : Q v H := h v H ex bt .refl S r
end

/-! ### weakening -/
theorem _root_.L2.PE.imp {X : Cx} {e : Expr} {t t' : TE} (h : PE X e t) (i : ∀ σ H Q, t' σ H Q → t σ H Q) : PE X e t' := ⟨fun pins s σ H Q I q => h.run pins s σ H Q I (i σ H Q q)⟩
theorem _root_.L2.PA.imp {X : Cx} {e : List Expr} {t t' : TA} (h : PA X e t) (i : ∀ σ H Q, t' σ H Q → t σ H Q) : PA X e t' := ⟨fun pos pins s σ H Q I q => h.run pos pins s σ H Q I (i σ H Q q)⟩
theorem _root_.L2.PT.imp {X : Cx} {e : Expr} {t t' : TT} (h : PT X e t) (i : ∀ σ H Q, t' σ H Q → t σ H Q) : PT X e t' := ⟨fun pins s σ H Q I q => h.run pins s σ H Q I (i σ H Q q)⟩
theorem _root_.L2.PW.imp {X : Cx} {e : Expr} {t t' : TT} (h : PW X e t) (i : ∀ σ H Q, t' σ H Q → t σ H Q) : PW X e t' := ⟨fun wh pins s σ H Q I q => h.run wh pins s σ H Q I (i σ H Q q)⟩
theorem _root_.L2.PS.imp {X : Cx} {e : Stmt} {t t' : TS} (h : PS X e t) (i : ∀ D σ H, t' D σ H → t D σ H) : PS X e t' := ⟨fun pins s σ H D I q => h.run pins s σ H D I (i D σ H q)⟩
theorem _root_.L2.PSs.imp {X : Cx} {e : List Stmt} {t t' : TS} (h : PSs X e t) (i : ∀ D σ H, t' D σ H → t D σ H) : PSs X e t' := ⟨fun pins s σ H D I q => h.run pins s σ H D I (i D σ H q)⟩
end Ev

end
section
/-! Ev 38: a tuple some times, wider bounds. -/
namespace Ev
open PySem PySem.Spec PyProof.Rows L2
/-- a product: one factor of 64 bits, or both of few bits -/
def CMulE (i j : Int) : Prop := CMul i j ∨ CMulW i j
theorem CMulE.ok {i j : Int} (h : CMulE i j) : IntMulOk i j := h.elim (fun h => h.ok) fun h => h.ok
theorem op_mulE {X : Cx} : OpR X (binaryOp .Mult) (rI CMulE fun i j => .int (i * j)) := opI fun _ _ _ _ _ _ _ hc q => mul_int q hc.ok
theorem mulOk_e {i j : Int} (h : mulOk i j = true) : CMulE i j := by
  unfold mulOk mulSm at h
  simp only [Bool.or_eq_true, Bool.and_eq_true, decide_eq_true_eq] at h
  exact h
/-- the same object: nothing to be repeated, or once -/
theorem mul_same (l : Addr) (us : Array Value) (m : Nat) (dd : Option Addr) (sl : Array (Option Value)) (k : Int) (t : Tok) (g0 : (decide (k < -(2 ^ 63)) || decide (k ≥ 2 ^ 63)) = false) (g1 : (us.isEmpty || k == 1) = true) :
    Meets (Builtin.«tuple.__mul__» ⟨[.ref l, .int k t], []⟩) (fun _ R s => s.heap.get? l = some { cls := .type "tuple", dict := dd, data := .seq us m, slots := sl } ∧ R (.ok (.ret (.ref l))) s) :=
  .of_wp fun prog w A R s h => by
    obtain ⟨hp, g, d, tk, os⟩ := s
    obtain ⟨at_, fin⟩ := h
    have f1 := AutoSeq1.idx_int
    wp_walk using wpAny_loadPart' at_
    repeat (first
      | (refine wpAny_ite_false (decide_eq_false (by rw [g0]; exact Bool.false_ne_true)) ?_; wp_walk using wpAny_loadPart' at_)
      | (refine wpAny_ite_true (decide_eq_true (by rw [g1])) ?_; wp_walk using wpAny_loadPart' at_))
    exact ⟨_, rfl, fin⟩
/-- nothing at all -/
theorem mul_none (l : Addr) (us : Array Value) (m : Nat) (dd : Option Addr) (sl : Array (Option Value)) (k : Int) (t : Tok) (g0 : (decide (k < -(2 ^ 63)) || decide (k ≥ 2 ^ 63)) = false) (g1 : (us.isEmpty || k == 1) = false) (g2 : (decide (k ≤ 0) || us.isEmpty) = true) :
    Meets (Builtin.«tuple.__mul__» ⟨[.ref l, .int k t], []⟩) (fun _ R s => s.heap.get? l = some { cls := .type "tuple", dict := dd, data := .seq us m, slots := sl } ∧
      R (.ok (.ret (Value.ref s.heap.objs.size))) { s with heap := s.heap.push { cls := Value.type "tuple", data := Data.seq #[] }, toks := s.toks }) :=
  .of_wp fun prog w A R s h => by
    obtain ⟨hp, g, d, tk, os⟩ := s
    obtain ⟨at_, fin⟩ := h
    have f1 := AutoSeq1.idx_int
    wp_walk using wpAny_loadPart' at_
    repeat (first
      | (refine wpAny_ite_false (decide_eq_false (by rw [g0]; exact Bool.false_ne_true)) ?_; wp_walk using wpAny_loadPart' at_)
      | (refine wpAny_ite_false (decide_eq_false (by rw [g1]; exact Bool.false_ne_true)) ?_; wp_walk using wpAny_loadPart' at_)
      | (refine wpAny_ite_true (decide_eq_true (by rw [g2])) ?_; wp_walk using wpAny_loadPart' at_))
    exact ⟨_, rfl, fin⟩
def rMulT (K : PySem.W.Frag) : R2 := fun x y H Q => ∃ l k xs, x = .ref l ∧ y = .int k ∧ SqT K H l xs ∧
  (((xs = [] ∨ k = 1) ∧ -(2 ^ 63) ≤ k ∧ k < 2 ^ 63 ∧ Q (.ref l) H) ∨ (xs ≠ [] ∧ 2 ≤ k ∧ xs.length * k.toNat ≤ 16777216 ∧ ∀ p, H p = none → Q (.ref p) (upd H p (.tup (List.replicate k.toNat xs).flatten))) ∨
   (xs ≠ [] ∧ k ≤ 0 ∧ -(2 ^ 63) ≤ k ∧ ∀ p, H p = none → Q (.ref p) (upd H p (.tup []))))
theorem op_mulT {X : Cx} : OpR X (binaryOp .Mult) (rMulT X.K) := by
  intro pins s σ H x y v u Q I rx ry h
  obtain ⟨l, k, xs, rfl, rfl, hT, h⟩ := h
  cases rx
  obtain ⟨t, rfl⟩ := ry
  obtain ⟨its, r, ⟨⟨cls, dd, data, sl⟩, ho, hc, n, hd⟩, hs⟩ := I.tuple hT
  simp only at hc hd
  subst hc hd
  have sz : its.toArray.size = xs.length := by rw [List.size_toArray, r.length]
  rcases h with ⟨h1, k0, k1, q⟩ | ⟨h1, k2, kz0, q⟩ | ⟨h1, k2, k0, q⟩
  · have g0 : (decide (k < -(2 ^ 63)) || decide (k ≥ 2 ^ 63)) = false := by
      rw [decide_eq_false (by omega), decide_eq_false (by omega)]; rfl
    have g1 : (its.toArray.isEmpty || k == 1) = true := by
      rcases h1 with rfl | rfl
      · cases r; rfl
      · rw [beq_self_eq_true, Bool.or_true]
    exact wpAny_binaryOp_repeat_ref (T := "tuple") (U := "int") (by decide) ⟨_, ho, rfl⟩ (fun s' => typeIs_int s' k t) noFill_tuple_mul F.fills_int_mul F.slot_int_rmul repeat_tuple F.slot_int_index.lookup
      (call_meets F.slot_int_rmul (typeIs_int s k t) F.entry_int_rmul (F.args_int_rmul_2 _ _) (int_rmul_tuple k t l its.toArray n dd sl)
        ⟨ho, rfl, ⟨_, ho, rfl⟩, call_meets F.slot_tuple_mul ⟨_, ho, rfl⟩ F.entry_tuple_mul (F.args_tuple_mul_2 _ _) (mul_same l its.toArray n dd sl k t g0 g1) ⟨ho, ⟨.ref l, H, I, rfl, q⟩⟩⟩)
  · have ne : its.toArray.isEmpty = false := by
      cases r with
      | nil => exact absurd rfl h1
      | cons a b => rfl
    have one : 1 ≤ xs.length := by cases xs with
      | nil => exact absurd rfl h1
      | cons a b => simp
    have kx : k ≤ ((xs.length : Nat) : Int) * k := by
      have := Int.mul_le_mul_of_nonneg_right (show (1 : Int) ≤ ((xs.length : Nat) : Int) by omega) (show (0 : Int) ≤ k by omega)
      omega
    have tot : k.toNat * xs.length ≤ 16777216 := by rw [Nat.mul_comm]; exact kz0
    have kz : ((xs.length : Nat) : Int) * k ≤ 16777216 := by
      have e : ((k.toNat * xs.length : Nat) : Int) = ((xs.length : Nat) : Int) * k := by
        rw [Int.natCast_mul, Int.toNat_of_nonneg (by omega), Int.mul_comm]
      omega
    have len : (List.replicate k.toNat its).flatten.length ≤ sizeLine := by
      rw [PyProof.Rows.lm_len_rep_flat, ← r.length, sizeLine_eq]
      exact tot
    have g0 : (decide (k < -(2 ^ 63)) || decide (k ≥ 2 ^ 63)) = false := by
      rw [decide_eq_false (by omega), decide_eq_false (by omega)]; rfl
    have g1 : (its.toArray.isEmpty || k == 1) = false := by
      rw [ne, Bool.false_or]
      exact beq_eq_false_iff_ne.mpr (by omega)
    have g2 : (decide (k ≤ 0) || its.toArray.isEmpty) = false := by
      rw [ne, Bool.or_false]
      exact decide_eq_false (by omega)
    have g4 : Builtin.Tuple.tupleTooMany (((its.toArray.size : Nat) : Int) * k) = false := by
      unfold Builtin.Tuple.tupleTooMany
      rw [sizeLine_eq, sz]
      exact decide_eq_false (by omega)
    refine wpAny_binaryOp_repeat_ref (T := "tuple") (U := "int") (by decide) ⟨_, ho, rfl⟩ (fun s' => typeIs_int s' k t) noFill_tuple_mul F.fills_int_mul F.slot_int_rmul repeat_tuple F.slot_int_index.lookup
      (call_meets F.slot_int_rmul (typeIs_int s k t) F.entry_int_rmul (F.args_int_rmul_2 _ _) (int_rmul_tuple k t l its.toArray n dd sl)
        ⟨ho, rfl, ⟨_, ho, rfl⟩, call_meets F.slot_tuple_mul ⟨_, ho, rfl⟩ F.entry_tuple_mul (F.args_tuple_mul_2 _ _) (tuple_mulW l its.toArray n dd sl k t g0 g1 g2 (by rw [sz]; omega) g4 (by rw [size_rep, List.size_toArray]; exact len)) ⟨ho, ?_⟩⟩)
    rw [size_rep]
    refine ⟨.ref s.heap.objs.size, _, I.laid (t' := s.toks) (o := .tup (List.replicate k.toNat xs).flatten) (fun b ob q => Heap.get?_push_of_some _ q) (Nat.le_refl _) ?_, rfl, q _ (I.hok.fresh (Nat.le_refl _))⟩
    exact ⟨by rw [PyProof.Rows.lm_len_rep_flat, sizeLine_eq]; exact tot, _, r.rep k.toNat, IsTup.new _ _⟩
  · have ne : its.toArray.isEmpty = false := by
      cases r with
      | nil => exact absurd rfl h1
      | cons a b => rfl
    have g0 : (decide (k < -(2 ^ 63)) || decide (k ≥ 2 ^ 63)) = false := by
      rw [decide_eq_false (by omega), decide_eq_false (by omega)]; rfl
    have g1 : (its.toArray.isEmpty || k == 1) = false := by
      rw [ne, Bool.false_or]
      exact beq_eq_false_iff_ne.mpr (by omega)
    have g2 : (decide (k ≤ 0) || its.toArray.isEmpty) = true := by
      rw [decide_eq_true k2]; rfl
    refine wpAny_binaryOp_repeat_ref (T := "tuple") (U := "int") (by decide) ⟨_, ho, rfl⟩ (fun s' => typeIs_int s' k t) noFill_tuple_mul F.fills_int_mul F.slot_int_rmul repeat_tuple F.slot_int_index.lookup
      (call_meets F.slot_int_rmul (typeIs_int s k t) F.entry_int_rmul (F.args_int_rmul_2 _ _) (int_rmul_tuple k t l its.toArray n dd sl)
        ⟨ho, rfl, ⟨_, ho, rfl⟩, call_meets F.slot_tuple_mul ⟨_, ho, rfl⟩ F.entry_tuple_mul (F.args_tuple_mul_2 _ _) (mul_none l its.toArray n dd sl k t g0 g1 g2) ⟨ho, ?_⟩⟩)
    refine ⟨.ref s.heap.objs.size, _, I.laid (t' := s.toks) (o := .tup []) (fun b ob q => Heap.get?_push_of_some _ q) (Nat.le_refl _) ?_, rfl, q _ (I.hok.fresh (Nat.le_refl _))⟩
    exact ⟨by rw [sizeLine_eq]; decide, _, .nil, IsTup.new _ _⟩
end Ev

end
section
/-! Ev 3: operators by values. -/
namespace Ev
open PySem PySem.Spec PyProof.Rows L2

section
variable {K : KW} {XR : Nat → Option P → XK → Hp → Prop} {base : List Nat} {α β ν μ : Type} {Y : XK} {ex ex1 : List Addr} {bt bt1 : Bt} {H H1 : Hp} {st : Store}
variable {R : Hp → List Addr → Bt → ν → α → Prop} {R' : Hp → List Addr → Bt → μ → β → Prop}
theorem Cont.opt {o : Option α} {f : α → M β} {Q : μ → Hp → Prop} (h : Cont K XR base Y R' ex bt H ((M.opt o).bnd f st) Q) : ∃ a, o = some a ∧ Cont K XR base Y R' ex bt H (f a st) Q := by
  cases o with
  | none => exact (show False from h).elim
  | some a => exact ⟨a, rfl, h⟩
theorem pures_loc {xs : List D} {ps : List P} {vs : List V} (e : pures xs = some ps) (r : RpDs K H ex bt vs xs) : Rps K H ex vs ps := by
  induction r generalizing ps with
  | nil =>
    simp only [pures, Option.some.injEq] at e
    subst e; exact .nil
  | cons q t ih =>
    rename_i v d vs ds
    cases d with
    | p d =>
      simp only [pures, Option.map_eq_some_iff] at e
      obtain ⟨qs, h1, h2⟩ := e
      subst h2
      exact .cons q (ih h1)
    | _ => simp [pures] at e
theorem view_loc (i : Nat) (st : Store) : view (.loc i) st = (match st[i]? with
    | some (.lst xs) => (match pures xs with
      | some ps => .ok (.list ps) st
      | none => .bad)
    | _ => .bad) := rfl
theorem view_ok (S : SRel K base ex bt st H) {v : V} {d : D} (r : RpD K H ex bt v d) : view d st = .bad ∨ ∃ p, view d st = .ok p st ∧ Cur K H ex v p := by
  cases d with
  | p d => exact .inr ⟨d, rfl, .p r⟩
  | loc i =>
    rw [view_loc]
    split
    · rename_i xs e
      split
      · rename_i ps e2
        obtain ⟨a, vs, h1, h2, h3⟩ := S.obj i xs e
        exact .inr ⟨_, rfl, .l (r.2 a h1) (SqL.of h2) (pures_loc e2 h3)⟩
      · exact .inl rfl
    · exact .inl rfl
  | scr ns =>
    obtain ⟨a, e, h⟩ := r
    exact .inr ⟨_, rfl, .l e h.sq (Rps.of_ints ns)⟩
  | iset ns => exact .inl rfl
  | tset ns => exact .inl rfl
  | fn f => exact .inl rfl
theorem Cont.view {f : P → M β} {Q : μ → Hp → Prop} (S : SRel K base ex bt st H) {v : V} {d : D} (r : RpD K H ex bt v d) (h : Cont K XR base Y R' ex bt H ((Ev.view d).bnd f st) Q) :
    ∃ p, Cur K H ex v p ∧ Ev.view d st = .ok p st ∧ Cont K XR base Y R' ex bt H (f p st) Q := by
  unfold M.bnd at h
  rcases view_ok S r with e | ⟨p, e, c⟩
  · rw [e] at h; exact (show False from h).elim
  · rw [e] at h; exact ⟨p, c, e, h⟩
/-! ### a new object -/
theorem Ext.alloc {p : Addr} {o : HO} (hn : H p = none) : Ext ex bt H ex bt (upd H p o) := by
  refine ⟨fun a u h _ => ?_, fun a u h => ?_, fun _ h => .inl h, fun _ h => .inl h, fun _ _ h => .inl h, fun _ _ h => .inl h⟩
  · rw [upd_ne (ne_of_none h hn)]; exact h
  · exact ⟨u, by rw [upd_ne (ne_of_none h hn)]; exact h⟩
theorem SRel.ext (S : SRel K base ex bt st H) (E : Ext ex bt H ex bt H1) (k : ∀ a vs, some a ∈ bt → H a = some (.lst vs) → H1 a = some (.lst vs)) : SRel K base ex bt st H1 := by
  refine ⟨S.len, S.low, S.live, S.inj, fun a h => ?_, fun a h => ?_, fun i xs h => ?_, S.dead, S.wf⟩
  · obtain ⟨o, h1⟩ := S.exH a h
    exact E.dom a o h1
  · obtain ⟨vs, h1⟩ := S.isl a h
    exact ⟨vs, k a vs h h1⟩
  · obtain ⟨a, vs, h1, h2, h3⟩ := S.obj i xs h
    exact ⟨a, vs, h1, k a vs (List.mem_of_getElem? h1) h2, RpDs.ext S E h3⟩
theorem SRel.alloc {p : Addr} {o : HO} (S : SRel K base ex bt st H) (hn : H p = none) : SRel K base ex bt st (upd H p o) :=
  S.ext (Ext.alloc hn) fun a vs _ h => by rw [upd_ne (ne_of_none h hn)]; exact h
theorem SRel.fresh {p : Addr} (S : SRel K base ex bt st H) (hn : H p = none) : p ∉ ex := fun q => by
  obtain ⟨o, h⟩ := S.exH p q
  rw [hn] at h; cases h
theorem Rp.newTup {p : Addr} {vs : List V} {ps : List P} (S : SRel K base ex bt st H) (hn : H p = none) (r : Rps K H ex vs ps) : Rp K (upd H p (.tup vs)) ex (.ref p) (.tuple ps) :=
  .tup (SqT.of upd_same) (Rps.ext S (Ext.alloc hn) r)
theorem Rp.newLst {p : Addr} {vs : List V} {ps : List P} (S : SRel K base ex bt st H) (hn : H p = none) (r : Rps K H ex vs ps) : Rp K (upd H p (.lst vs)) ex (.ref p) (.list ps) :=
  .lst upd_same (S.fresh hn) (Rps.ext S (Ext.alloc hn) r)
variable {Q : V → Hp → Prop}
/-- the value is there -/
theorem Cont.val {d : D} {v : V} (S : SRel K base ex bt st H) (h : Cont K XR base Y (RpD K) ex bt H (M.ret d st) Q) (r : RpD K H ex bt v d) : Q v H := h v H ex bt .refl S r
/-- a new object holds it -/
theorem Cont.made {d : D} {v : V} {p : Addr} {o : HO} (S : SRel K base ex bt st H) (h : Cont K XR base Y (RpD K) ex bt H (M.ret d st) Q) (hn : H p = none) (r : RpD K (upd H p o) ex bt v d) : Q v (upd H p o) :=
  h v _ ex bt (Ext.alloc hn) (S.alloc hn) r
theorem Cont.tup {ps : List P} {vs : List V} (S : SRel K base ex bt st H) (h : Cont K XR base Y (RpD K) ex bt H (M.ret (.p (.tuple ps)) st) Q) (r : Rps K H ex vs ps) : ∀ p, H p = none → Q (.ref p) (upd H p (.tup vs)) :=
  fun p hn => h.made S hn (Rp.newTup S hn r)
theorem Cont.lst {ps : List P} {vs : List V} (S : SRel K base ex bt st H) (h : Cont K XR base Y (RpD K) ex bt H (M.ret (.p (.list ps)) st) Q) (r : Rps K H ex vs ps) : ∀ p, H p = none → Q (.ref p) (upd H p (.lst vs)) :=
  fun p hn => h.made S hn (Rp.newLst S hn r)
theorem line_eq : sizeLine = line := sizeLine_eq

/-! ### two-place operators -/
def bopOf : Bop → Operator
  | .add => .Add | .sub => .Sub | .mul => .Mult | .fdiv => .FloorDiv | .mod => .Mod | .pow => .Pow
abbrev rAddI : R2 := rI0 fun i j => .int (i + j)
abbrev rStrA : R2 := fun x y H Q => ∃ i j, x = .str i ∧ y = .str j ∧ i.length + j.length ≤ sizeLine ∧ Q (.str (i ++ j)) H
def rBin (K : PySem.W.Frag) : Bop → R2
  | .add => fun x y H Q => (rAddI x y H Q ∨ rStrA x y H Q) ∨ (rCatA K x y H Q ∨ rCat x y H Q)
  | .sub => rI0 fun i j => .int (i - j)
  | .mul => fun x y H Q => rI CMulE (fun i j => .int (i * j)) x y H Q ∨ (rMulT K x y H Q ∨ rRep x y H Q)
  | .fdiv => rI CDivW fun i j => .int (i / j)
  | .mod => rI (fun _ j => 0 < j) fun i j => .int (i % j)
  | .pow => rI CPow fun i j => .int (i ^ j.toNat)
theorem op_rBin {X : Cx} (o : Bop) : OpR X (binaryOp (bopOf o)) (rBin X.K o) := by
  cases o with
  | add => exact OpR.or (OpR.or op_add op_add_str) (OpR.or op_catA op_cat)
  | sub => exact op_sub
  | mul => exact OpR.or op_mulE (OpR.or op_mulT op_rep)
  | fdiv => exact op_fdivW
  | mod => exact op_mod
  | pow => exact op_pow
theorem Cur.lstM {v : V} {ps : List P} {d : D} (S : SRel K base ex bt st H) (r : RpD K H ex bt v d) (ns : isScr d = false) (e : Ev.view d st = .ok (.list ps) st) : ∃ a vs, v = .ref a ∧ H a = some (.lst vs) ∧ Rps K H ex vs ps := by
  cases d with
  | p d =>
    cases e
    cases (show Rp K H ex v (.list ps) from r) with
    | lst h _ r => exact ⟨_, _, rfl, h, r⟩
  | loc i =>
    rw [view_loc] at e
    split at e
    · rename_i xs e1
      split at e
      · rename_i qs e2
        cases e
        obtain ⟨a, vs, h1, h2, h3⟩ := S.obj i xs e1
        exact ⟨a, vs, r.2 a h1, h2, pures_loc e2 h3⟩
      · cases e
    · cases e
  | scr ns' => cases ns
  | iset _ => cases e
  | tset _ => cases e
  | fn _ => cases e
theorem bin_ok {o : Bop} {x y : V} {d e : D} (S : SRel K base ex bt st H) (rx : RpD K H ex bt x d) (ry : RpD K H ex bt y e) (h : Cont K XR base Y (RpD K) ex bt H (binD o d e st) Q) : rBin K o x y H Q := by
  unfold binD at h
  by_cases hs : (isScr d || isScr e) = true
  · rw [if_pos hs] at h; exact (show False from h).elim
  rw [if_neg hs] at h
  simp only [Bool.not_eq_true, Bool.or_eq_false_iff] at hs
  obtain ⟨p, cx, ex1, h⟩ := Cont.view S rx h
  obtain ⟨q, cy, ey1, h⟩ := Cont.view S ry h
  obtain ⟨r, er, h⟩ := Cont.opt h
  unfold binP at er
  split at er
  · -- int + int
    cases er
    exact .inl (.inl ⟨_, _, cx.int, cy.int, h.val S (.int _)⟩)
  · split at er
    · cases er
      rename_i hl
      exact .inl (.inr ⟨_, _, cx.str, cy.str, by rw [line_eq]; exact hl, h.val S (.str _)⟩)
    · cases er
  · split at er
    · cases er
      rename_i xs ys hl
      obtain ⟨a, vs, rfl, h1, r1⟩ := cx.tup
      obtain ⟨b, ws, rfl, h2, r2⟩ := cy.tup
      refine .inr (.inl ⟨a, b, vs, ws, rfl, rfl, h1, h2, by rw [line_eq, r1.length, r2.length]; exact hl, fun z => ?_, fun _ z => ?_, fun _ _ => h.tup S (r1.append r2)⟩)
      · subst z
        cases r1
        exact h.val S (.tup h2 r2)
      · subst z
        cases r2
        rw [List.append_nil] at h
        exact h.val S (.tup h1 r1)
    · cases er
  · split at er
    · cases er
      rename_i xs ys hl
      obtain ⟨a, vs, rfl, h1, r1⟩ := Cur.lstM S rx hs.1 ex1
      obtain ⟨b, ws, rfl, h2, r2⟩ := Cur.lstM S ry hs.2 ey1
      exact .inr (.inr ⟨a, b, vs, ws, rfl, rfl, h1, h2, by rw [line_eq, r1.length, r2.length]; exact hl, h.lst S (r1.append r2)⟩)
    · cases er
  · cases er
    exact ⟨_, _, cx.int, cy.int, h.val S (.int _)⟩
  · split at er
    · cases er
      rename_i i j hm
      refine .inl ⟨_, _, cx.int, cy.int, ?_, h.val S (.int _)⟩
      exact mulOk_e hm
    · cases er
  · split at er
    · cases er
      rename_i xs k hm
      simp only [Bool.and_eq_true, Bool.or_eq_true, decide_eq_true_eq, beq_iff_eq, List.isEmpty_iff] at hm
      obtain ⟨⟨h1, h2⟩, h3⟩ := hm
      obtain ⟨a, vs, rfl, hS, r1⟩ := cx.tup
      refine .inr (.inl ⟨a, _, vs, rfl, cy.int, hS, .inl ⟨?_, h2, h3, h.val S (.tup hS r1)⟩⟩)
      rcases h1 with rfl | h1
      · cases r1; exact .inl rfl
      · exact .inr h1
    · split at er
      · cases er
        rename_i xs k hm0 hm
        simp only [Bool.and_eq_true, decide_eq_true_eq] at hm
        obtain ⟨⟨h1, h2⟩, h3⟩ := hm
        obtain ⟨a, vs, rfl, hS, r1⟩ := cx.tup
        refine .inr (.inl ⟨a, _, vs, rfl, cy.int, hS, .inr (.inl ⟨?_, h2, by rw [r1.length]; exact h3, h.tup S (r1.replicate _)⟩)⟩)
        intro z
        subst z
        cases r1
        simp at h1
      · split at er
        · cases er
          rename_i hm
          simp only [Bool.and_eq_true, decide_eq_true_eq] at hm
          obtain ⟨⟨h1, h2⟩, h3⟩ := hm
          obtain ⟨a, vs, rfl, hS, r1⟩ := cx.tup
          refine .inr (.inl ⟨a, _, vs, rfl, cy.int, hS, .inr (.inr ⟨?_, h2, h3, h.tup S .nil⟩)⟩)
          intro z
          subst z
          cases r1
          simp at h1
        · cases er
  · split at er
    · cases er
      rename_i xs k hm
      simp only [Bool.and_eq_true, decide_eq_true_eq] at hm
      obtain ⟨⟨h1, h2⟩, h3⟩ := hm
      obtain ⟨a, vs, rfl, hS, r1⟩ := Cur.lstM S rx hs.1 ex1
      exact .inr (.inr ⟨a, _, vs, rfl, cy.int, hS, h1, h2, by rw [line_eq, r1.length]; exact h3, h.lst S (r1.replicate _)⟩)
    · cases er
  · split at er
    · cases er
      rename_i i j hm
      refine ⟨_, _, cx.int, cy.int, ?_, h.val S (.int _)⟩
      unfold divOk at hm
      simp only [Bool.and_eq_true, decide_eq_true_eq] at hm
      exact hm
    · cases er
  · split at er
    · cases er
      rename_i i j hm
      exact ⟨_, _, cx.int, cy.int, of_decide_eq_true hm, h.val S (.int _)⟩
    · cases er
  · split at er
    · cases er
      rename_i i j hm
      simp only [Bool.and_eq_true, decide_eq_true_eq] at hm
      exact ⟨_, _, cx.int, cy.int, ⟨hm.1.1, hm.1.2, hm.2⟩, h.val S (.int _)⟩
    · cases er
  · cases er
end
end Ev

end
section
/-! Ev 4: comparisons, truth, places, slices, built-ins by values. -/
namespace Ev
open PySem PySem.Spec PyProof.Rows L2

/-! ### rules that the layer lacks -/
section
variable {X : Cx}
def rInT (K : PySem.W.Frag) (neg : Bool) : R2 := fun x y H Q => ∃ d ds, Dp K H x d ∧ Dp K H y (.tuple ds) ∧ SeqAt.shaped d = true ∧ SeqAt.shaped (.tuple ds) = true ∧ Q (.bl (if neg then !(ds.any fun z => PyData.eqv z d) else ds.any fun z => PyData.eqv z d)) H
theorem op_inT (hu : X.A.units + 65 < cLine) : OpR X (compareOp .In) (rInT X.K false) := by
  intro pins s σ H x y v u Q I rx ry ⟨d, ds, hd, he, sd, se, q⟩
  obtain ⟨as, r1⟩ := Dp.reads I d x v hd rx
  obtain ⟨bs, r2⟩ := Dp.reads I (.tuple ds) y u he ry
  refine SeqAt.in_tuple_reads r2 r1 (SeqAt.canLay_of_shaped se) (SeqAt.canLay_of_shaped sd) (by
    have h1 := SeqAt.depth_of_shaped sd
    have := Nat.min_le_right (PyData.depthAll ds) d.depth
    omega) ⟨.bl _, H, I, rfl, q⟩
theorem op_notInT (hu : X.A.units + 65 < cLine) : OpR X (compareOp .NotIn) (rInT X.K true) := by
  intro pins s σ H x y v u Q I rx ry ⟨d, ds, hd, he, sd, se, q⟩
  obtain ⟨as, r1⟩ := Dp.reads I d x v hd rx
  obtain ⟨bs, r2⟩ := Dp.reads I (.tuple ds) y u he ry
  refine SeqAt.notIn_tuple_reads r2 r1 (SeqAt.canLay_of_shaped se) (SeqAt.canLay_of_shaped sd) (by
    have h1 := SeqAt.depth_of_shaped sd
    have := Nat.min_le_right (PyData.depthAll ds) d.depth
    omega) ⟨.bl _, H, I, rfl, q⟩
theorem CallR.or {f : Value} {r r' : List V → Hp → VK → Prop} (h : CallR X f r) (h' : CallR X f r') : CallR X f (fun xs H Q => r xs H Q ∨ r' xs H Q) := by
  intro pins s σ H xs us Q I rx q
  rcases q with q | q
  · exact h pins s σ H xs us Q I rx q
  · exact h' pins s σ H xs us Q I rx q
/-- the text of plain data -/
def rShown (K : PySem.W.Frag) : List V → Hp → VK → Prop := fun xs H Q => ∃ x d, xs = [x] ∧ Dp K H x d ∧ d.showable = true ∧ d.hasDict = false ∧ d.shown.length ≤ sizeLine ∧ d.depth ≤ 60 ∧ Q (.str d.shown) H
theorem call_shown (hg : X.A.guards = some []) (hu : X.A.units + 64 < cLine) : CallR X (.builtin "repr") (rShown X.K) := by
  intro pins s σ H xs us Q I r ⟨x, d, ex, hd, h1, h2, h3, h4, q⟩
  subst ex
  obtain ⟨u, rfl, ru⟩ := vals1 r
  cases hd with
  | non => cases ru; exact PySem.P.repr_of_none ⟨.str _, H, I.tok _, ⟨_, rfl⟩, by simpa only [PyData.shown] using q⟩
  | bl b => cases ru; exact PySem.P.repr_of_bool ⟨.str _, H, I.tok _, ⟨_, rfl⟩, by simpa only [PyData.shown] using q⟩
  | int i => obtain ⟨t, rfl⟩ := ru; exact PySem.P.repr_of_int (by simpa [PyData.showable] using h1) ⟨.str _, H, I.tok _, ⟨_, rfl⟩, by simpa only [PyData.shown] using q⟩
  | str z => obtain ⟨t, rfl⟩ := ru; exact PySem.P.repr_of_str ⟨.str _, H, I.tok _, ⟨_, rfl⟩, by simpa only [PyData.shown] using q⟩ (by simpa only [PyData.shown] using h3)
  | lst a b =>
    obtain ⟨as, r1⟩ := Dp.reads I _ _ _ (Dp.lst a b) ru
    cases ru
    exact repr_of_reads' r1 h1 (PyData.noDict_hsm h2) hg (by omega) (fun _ _ e => e) (fun h' t tk hk => ⟨.str _, H, I.kept hk, ⟨_, rfl⟩, q⟩) h3
  | tup a b =>
    obtain ⟨as, r1⟩ := Dp.reads I _ _ _ (Dp.tup a b) ru
    cases ru
    exact repr_of_reads' r1 h1 (PyData.noDict_hsm h2) hg (by omega) (fun _ _ e => e) (fun h' t tk hk => ⟨.str _, H, I.kept hk, ⟨_, rfl⟩, q⟩) h3
end

/-! ### comparisons -/
def copOf : Cop → CmpOp
  | .eq => .Eq | .ne => .NotEq | .lt => .Lt | .le => .LtE | .gt => .Gt | .ge => .GtE | .isin => .In | .notin => .NotIn | .is => .Is | .isnot => .IsNot
abbrev rSign (neg : Bool) : R2 := fun x y H Q => ∃ (c : Nat) (z : Str), x = .str ⟨#[c]⟩ ∧ y = .str z ∧ Q (.bl (if neg then !decide (c ∈ z.cps.toList) else decide (c ∈ z.cps.toList))) H
abbrev rIsNn (neg : Bool) : R2 := fun x y H Q => y = .non ∧ Q (.bl (if neg then !decide (x = .non) else decide (x = .non))) H
def rEqE (K : PySem.W.Frag) (neg : Bool) : R2 := fun x y H Q => ∃ a b xs, x = .ref a ∧ y = .ref b ∧ SqT K H a xs ∧ SqT K H b [] ∧ Q (.bl (if neg then !xs.isEmpty else xs.isEmpty)) H
theorem op_eqE {X : Cx} (hu : X.A.units + 65 < cLine) : OpR X (compareOp .Eq) (rEqE X.K false) := by
  intro pins s σ H x y v u Q I rx ry h
  obtain ⟨a, b, xs, rfl, rfl, h1, h2, q⟩ := h
  cases rx
  cases ry
  obtain ⟨its, r1, t1, z1⟩ := I.tuple h1
  obtain ⟨jts, r2, t2, z2⟩ := I.tuple h2
  cases r2
  have e := SeqAt.RcAt.tuples (A := X.A) (e := fun _ => true) t1 t2 (by omega) (fun j j1 j2 => absurd j2 (by simp)) X.prog X.w X.xe
  refine e _ ⟨.bl xs.isEmpty, H, I, ?_, q⟩
  show _ = Value.bool xs.isEmpty
  cases r1 <;> rfl
theorem op_neE {X : Cx} (hu : X.A.units + 65 < cLine) : OpR X (compareOp .NotEq) (rEqE X.K true) := by
  intro pins s σ H x y v u Q I rx ry h
  obtain ⟨a, b, xs, rfl, rfl, h1, h2, q⟩ := h
  cases rx
  cases ry
  obtain ⟨its, r1, t1, z1⟩ := I.tuple h1
  obtain ⟨jts, r2, t2, z2⟩ := I.tuple h2
  cases r2
  have e := SeqAt.RcNeAt.tuples (A := X.A) (e := fun _ => true) t1 t2 (by omega) (fun j j1 j2 => absurd j2 (by simp)) X.prog X.w X.xe
  refine e _ ⟨.bl (!xs.isEmpty), H, I, ?_, q⟩
  show _ = Value.bool (!xs.isEmpty)
  cases r1 <;> rfl
def rGtT (K : PySem.W.Frag) : R2 := fun x y H Q => ∃ d e, Dp K H x d ∧ Dp K H y e ∧ SeqAt.shaped d = true ∧ PySem.W.alike d e = true ∧ d ≠ .none ∧ Q (.bl (PySem.W.dataLt e d)) H
theorem op_gtT {X : Cx} (hu : X.A.units + 65 < cLine) : OpR X (compareOp .Gt) (rGtT X.K) := by
  intro pins s σ H x y v u Q I rx ry ⟨d, e, hd, he, sd, ha, hn, q⟩
  obtain ⟨as, r1⟩ := Dp.reads I d x v hd rx
  obtain ⟨bs, r2⟩ := Dp.reads I e y u he ry
  refine PySem.W.gt_data r1 r2 ha hn (by
    have h1 := SeqAt.depth_of_shaped sd
    have := Nat.min_le_left d.depth e.depth
    omega) ⟨.bl _, H, I, rfl, q⟩
def rCmp (K : PySem.W.Frag) : Cop → R2
  | .eq => fun x y H Q => rEqD K x y H Q ∨ rEqE K false x y H Q
  | .ne => fun x y H Q => rNeD K x y H Q ∨ rEqE K true x y H Q
  | .lt => rI0 fun i j => .bl (decide (i < j))
  | .le => rI0 fun i j => .bl (decide (i ≤ j))
  | .gt => fun x y H Q => rI0 (fun i j => .bl (decide (j < i))) x y H Q ∨ rGtT K x y H Q
  | .ge => rI0 fun i j => .bl (decide (j ≤ i))
  | .isin => fun x y H Q => (rInD K x y H Q ∨ rInT K false x y H Q) ∨ rSign false x y H Q
  | .notin => fun x y H Q => (rNotInD K x y H Q ∨ rInT K true x y H Q) ∨ rSign true x y H Q
  | .is => fun x y H Q => rIsNn false x y H Q ∨ rIsB x y H Q
  | .isnot => fun x y H Q => rIsNn true x y H Q ∨ rNotB x y H Q
theorem op_rCmp {X : Cx} (hu : X.A.units + 65 < cLine) (o : Cop) : OpR X (compareOp (copOf o)) (rCmp X.K o) := by
  cases o with
  | eq => exact OpR.or (op_eqD (by omega)) (op_eqE hu)
  | ne => exact OpR.or (op_neD (by omega)) (op_neE hu)
  | lt => exact op_lt
  | le => exact op_le
  | gt => exact OpR.or op_gt (op_gtT hu)
  | ge => exact op_ge
  | isin => exact OpR.or (OpR.or (op_inD hu) (op_inT hu)) op_in_sign
  | notin => exact OpR.or (OpR.or (op_notInD hu) (op_notInT hu)) op_notIn_sign
  | is => exact OpR.or op_isN op_isBl
  | isnot => exact OpR.or op_notN op_notBl
section
variable {K : KW} {XR : Nat → Option P → XK → Hp → Prop} {base : List Nat} {α β ν μ : Type} {Y : XK} {ex ex1 : List Addr} {bt bt1 : Bt} {H H1 : Hp} {st : Store}
variable {R : Hp → List Addr → Bt → ν → α → Prop} {R' : Hp → List Addr → Bt → μ → β → Prop} {Q : V → Hp → Prop}
theorem Cur.dpS {v : V} {p : P} (h : Cur K H ex v p) (q : SeqAt.shaped p = true) : Dp K H v p := h.dp (PyData.hasDict_of_canLay _ (SeqAt.canLay_of_shaped q))
def isNo : P → Bool
  | .none => true
  | _ => false
theorem cur_non {v : V} {p : P} (h : Cur K H ex v p) : decide (v = .non) = isNo p := by
  cases h with
  | p h => cases h <;> simp [isNo]
  | l e _ _ => simp [isNo, e]
theorem eqP_ok {x y : P} {b : Bool} (h : eqP x y = some b) : (SeqAt.shaped x = true ∧ SeqAt.shaped y = true ∧ b = PyData.eqv x y) ∨ ∃ xs, x = .tuple xs ∧ y = .tuple [] ∧ b = xs.isEmpty := by
  unfold eqP at h
  split at h
  · rename_i e
    unfold eqE at e
    split at e
    · cases h; cases e; exact .inr ⟨_, rfl, rfl, rfl⟩
    · cases e
  · split at h
    · rename_i e
      rw [Bool.and_eq_true] at e
      exact .inl ⟨e.1, e.2, (Option.some.inj h).symm⟩
    · cases h
theorem cur_tup {v : V} {xs : List P} (h : Cur K H ex v (.tuple xs)) : ∃ a vs, v = .ref a ∧ SqT K.f H a vs ∧ Rps K H ex vs xs := by
  cases h with
  | p h => cases h with
    | tup a b => exact ⟨_, _, rfl, a, b⟩
theorem cmp_ok {o : Cop} {x y : V} {d e : D} (S : SRel K base ex bt st H) (rx : RpD K H ex bt x d) (ry : RpD K H ex bt y e) (h : Cont K XR base Y (RpD K) ex bt H (cmpD o d e st) Q) : rCmp K o x y H Q := by
  unfold cmpD at h
  obtain ⟨p, cx, -, h⟩ := Cont.view S rx h
  obtain ⟨q, cy, -, h⟩ := Cont.view S ry h
  obtain ⟨r, er, h⟩ := Cont.opt h
  have fin : Q (.bl r) H := h.val S (.bl r)
  have inOk : ∀ {b : Bool} (neg : Bool), inP p q = some b → (if neg then !b else b) = r → ((if neg then rNotInD K x y H Q else rInD K x y H Q) ∨ rInT K neg x y H Q) ∨ rSign neg x y H Q := by
    intro b neg hb hr
    unfold inP at hb
    split at hb
    · split at hb
      · rename_i ys hs
        rw [Bool.and_eq_true] at hs
        cases hb
        refine .inl (.inl ?_)
        cases neg with
        | false => exact ⟨p, ys, cx.dpS hs.1, cy.dpS hs.2, hs.1, hs.2, by have z := fin; rw [← hr] at z; simpa using z⟩
        | true => exact ⟨p, ys, cx.dpS hs.1, cy.dpS hs.2, hs.1, hs.2, by have z := fin; rw [← hr] at z; simpa using z⟩
      · cases hb
    · split at hb
      · rename_i ys hs
        rw [Bool.and_eq_true] at hs
        cases hb
        exact .inl (.inr ⟨p, ys, cx.dpS hs.1, cy.dpS hs.2, hs.1, hs.2, by rw [hr]; exact fin⟩)
      · cases hb
    · split at hb
      · split at hb
        · rename_i c hc0 l0 k e
          cases hb
          have ec : c = ⟨#[k]⟩ := by
            cases c with
            | mk cps =>
              have : cps = #[k] := by
                apply Array.ext'
                simpa using e
              rw [this]
          subst ec
          exact .inr ⟨k, _, cx.str, cy.str, by rw [hr]; exact fin⟩
        · cases hb
      · cases hb
    · cases hb
  have isOk : ∀ {b : Bool}, isP p q = some b → (y = .non ∧ decide (x = .non) = b) ∨ ∃ c d, x = .bl c ∧ y = .bl d ∧ decide (c = d) = b := by
    intro b hb
    unfold isP at hb
    split at hb
    · cases hb
      exact .inl ⟨cy.non, by rw [cx.non]; simp⟩
    · rename_i hn
      cases hb
      refine .inl ⟨cy.non, ?_⟩
      rw [cur_non cx]
      cases p <;> first | rfl | exact (hn rfl).elim
    · cases hb
      exact .inr ⟨_, _, cx.bool, cy.bool, rfl⟩
    · cases hb
  cases o with
  | eq =>
    rcases eqP_ok er with ⟨h1, h2, h3⟩ | ⟨xs, rfl, rfl, h3⟩
    · exact .inl ⟨p, q, cx.dpS h1, cy.dpS h2, h1, h2, h3 ▸ fin⟩
    · obtain ⟨a, vs, rfl, t1, r1⟩ := cur_tup cx
      obtain ⟨b, us, rfl, t2, r2⟩ := cur_tup cy
      cases r2
      exact .inr ⟨a, b, vs, rfl, rfl, t1, t2, by rw [if_neg Bool.false_ne_true, show vs.isEmpty = r by rw [h3]; cases r1 <;> rfl]; exact fin⟩
  | ne =>
    simp only [cmpP, Option.map_eq_some_iff] at er
    obtain ⟨b, hb, hr⟩ := er
    rcases eqP_ok hb with ⟨h1, h2, h3⟩ | ⟨xs, rfl, rfl, h3⟩
    · exact .inl ⟨p, q, cx.dpS h1, cy.dpS h2, h1, h2, by rw [← h3, hr]; exact fin⟩
    · obtain ⟨a, vs, rfl, t1, r1⟩ := cur_tup cx
      obtain ⟨c, us, rfl, t2, r2⟩ := cur_tup cy
      cases r2
      exact .inr ⟨a, c, vs, rfl, rfl, t1, t2, by rw [if_pos rfl, show (!vs.isEmpty) = r by rw [← hr, h3]; cases r1 <;> rfl]; exact fin⟩
  | lt =>
    unfold cmpP at er
    split at er <;> first | (exfalso; simp at *; done) | cases er
    all_goals rename_i z; first | cases z | skip
    exact ⟨_, _, cx.int, cy.int, fin⟩
  | le =>
    unfold cmpP at er
    split at er <;> first | (exfalso; simp at *; done) | cases er
    all_goals rename_i z; first | cases z | skip
    exact ⟨_, _, cx.int, cy.int, fin⟩
  | gt =>
    cases p with
    | int i =>
      cases q with
      | int j =>
        cases er
        exact .inl ⟨_, _, cx.int, cy.int, fin⟩
      | _ => cases er
    | tuple xs =>
      cases q with
      | tuple ys =>
        have er' : (if SeqAt.shaped (.tuple xs) && SeqAt.shaped (.tuple ys) && PySem.W.alike (.tuple xs) (.tuple ys) then some (PySem.W.dataLt (.tuple ys) (.tuple xs)) else none) = some r := er
        split at er'
        · rename_i hs
          rw [Bool.and_eq_true, Bool.and_eq_true] at hs
          cases er'
          exact .inr ⟨_, _, cx.dpS hs.1.1, cy.dpS hs.1.2, hs.1.1, hs.2, nofun, fin⟩
        · cases er'
      | _ => cases er
    | _ => cases er
  | ge =>
    unfold cmpP at er
    split at er <;> first | (exfalso; simp at *; done) | cases er
    all_goals rename_i z; first | cases z | skip
    exact ⟨_, _, cx.int, cy.int, fin⟩
  | isin => exact inOk (b := r) false er rfl
  | notin =>
    simp only [cmpP, Option.map_eq_some_iff] at er
    obtain ⟨b, hb, hr⟩ := er
    exact inOk true hb hr
  | is =>
    rcases isOk (b := r) er with ⟨h1, h2⟩ | ⟨c, d, h1, h2, h3⟩
    · exact .inl ⟨h1, by simpa [h2] using fin⟩
    · exact .inr ⟨c, d, h1, h2, by rw [h3]; exact fin⟩
  | isnot =>
    simp only [cmpP, Option.map_eq_some_iff] at er
    obtain ⟨b, hb, hr⟩ := er
    rcases isOk hb with ⟨h1, h2⟩ | ⟨c, d, h1, h2, h3⟩
    · exact .inl ⟨h1, by simpa [h2, hr] using fin⟩
    · exact .inr ⟨c, d, h1, h2, by rw [h3, hr]; exact fin⟩
/-! ### truth -/
theorem isEmpty_rps {vs : List V} {ps : List P} (r : Rps K H ex vs ps) : (!vs.isEmpty) = !ps.isEmpty := by cases r <;> rfl
theorem tru_val {x : V} {p : P} {b : Bool} (c : Cur K H ex x p) (e : truP p = some b) : TruV K x H b := by
  unfold truP at e
  split at e
  · cases e; rw [c.non]; rfl
  · cases e; rw [c.bool]; rfl
  · cases e; rw [c.int]; rfl
  · split at e
    · rename_i h
      cases e
      rw [c.str]
      exact ⟨by rw [line_eq]; exact h, rfl⟩
    · cases e
  · cases e
    obtain ⟨a, vs, rfl, h, r⟩ := c.list
    exact .inl ⟨vs, h, (isEmpty_rps r).symm⟩
  · cases e
    obtain ⟨a, vs, rfl, h, r⟩ := c.tup
    exact .inr (.inl ⟨vs, h, (isEmpty_rps r).symm⟩)
  · cases e
theorem Cont.tru {f : Bool → M β} {Q' : μ → Hp → Prop} {x : V} {d : D} (S : SRel K base ex bt st H) (r : RpD K H ex bt x d) (h : Cont K XR base Y R' ex bt H ((truD d).bnd f st) Q') :
    ∃ b, TruV K x H b ∧ Cont K XR base Y R' ex bt H (f b st) Q' := by
  have h' : Cont K XR base Y R' ex bt H (((Ev.view d).bnd fun p => (M.opt (truP p)).bnd f) st) Q' := by
    have e : ((truD d).bnd f) st = ((Ev.view d).bnd fun p => (M.opt (truP p)).bnd f) st := by
      unfold truD M.bnd
      cases Ev.view d st <;> rfl
    rw [← e]; exact h
  obtain ⟨p, c, _, h1⟩ := Cont.view S r h'
  obtain ⟨b, e, h2⟩ := Cont.opt h1
  exact ⟨b, tru_val c e, h2⟩
end
end Ev

end
section
/-! Ev 5: places, slices, turned sequences. -/
namespace Ev
open PySem PySem.Spec PyProof.Rows L2

/-! ### t[::-1] -/
section
variable {prog : Program} {w : World} {A : Around} {E : Value → Shared → Prop} {s : Shared}
theorem adjust_back (n : Nat) : Builtin.Slice.sliceAdjust none none (-1) (n : Int) = ((n : Int) - 1, -1) := by
  unfold Builtin.Slice.sliceAdjust
  simp
theorem places_back (n : Nat) : Builtin.Slice.slicePlaces ((n : Int) - 1) (-1) (-1) = n := by
  unfold Builtin.Slice.slicePlaces
  simp
  omega
theorem applied_back {sl : Addr} {vs : Value} {n : Nat} {Q : Int × Int × Nat → Shared → Prop} (hs : s.heap.IsSliceOf sl .none .none vs) (ps : IsPart vs (some (-1)))
    (h : Q ((n : Int) - 1, -1, n) s) : wpAny (model prog w) A (Builtin.Slice.sliceApplied (.ref sl) (pure (n : Int))) Q E s := by
  obtain ⟨os, hos, hcs, hds⟩ := id hs
  unfold Builtin.Slice.sliceApplied Builtin.Slice.sliceFields
  refine wpAny_bind (wpAny_bind (wpAny_field hos hds (x := .none) rfl (wpAny_bind (wpAny_field hos hds (x := .none) rfl (wpAny_bind (wpAny_field hos hds (x := vs) rfl (wpAny_pure ?_)))))))
  refine wpAny_bind (HT.slicePart_ ps ?_)
  show wpAny _ _ (if ((-1 : Int) == 0) = true then _ else _) _ _ s
  rw [if_neg (by decide)]
  refine wpAny_bind (HT.slicePart_ .none (wpAny_bind (HT.slicePart_ .none (wpAny_bind (wpAny_pure ?_)))))
  show wpAny _ _ (match Builtin.Slice.sliceAdjust none none (-1) (n : Int) with | (lo, hi) => pure (lo, (-1 : Int), Builtin.Slice.slicePlaces lo hi (-1))) _ _ s
  rw [adjust_back n]
  show wpAny _ _ (pure ((n : Int) - 1, (-1 : Int), Builtin.Slice.slicePlaces ((n : Int) - 1) (-1) (-1))) _ _ s
  rw [places_back]
  exact wpAny_pure h
theorem fm_congr {α β : Type} {f g : α → Option β} : ∀ {l : List α}, (∀ x ∈ l, f x = g x) → l.filterMap f = l.filterMap g
  | [], _ => rfl
  | x :: l, h => by
    rw [List.filterMap_cons, List.filterMap_cons, h x List.mem_cons_self, fm_congr fun y hy => h y (List.mem_cons_of_mem _ hy)]
theorem pick_back (xs : Array Value) : ((List.range xs.size).filterMap fun (m : Nat) => xs[((xs.size : Int) - 1 + (m : Int) * (-1)).toNat]?).toArray = xs.toList.reverse.toArray := by
  have e : (List.range xs.size).filterMap (fun (m : Nat) => xs[((xs.size : Int) - 1 + (m : Int) * (-1)).toNat]?) = xs.toList.reverse := by
    have h1 := W.krv_all xs
    rw [← h1, ← List.filterMap_reverse, ← W.krv_range, List.filterMap_map]
    refine fm_congr fun k hk => ?_
    have hk' := List.mem_range.mp hk
    show xs[((xs.size : Int) - 1 + (k : Int) * (-1)).toNat]? = xs[xs.size - 1 - k]?
    congr 1
    omega
  rw [e]
theorem getItem_tuple_back {t sl : Addr} {items : Array Value} {vs : Value} {Q : Value → Shared → Prop} (ht : IsTup s.heap t items) (hs : s.heap.IsSliceOf sl .none .none vs) (ps : IsPart vs (some (-1)))
    (h : Q (.ref s.heap.objs.size) { s with heap := s.heap.push { cls := .type "tuple", data := .seq items.toList.reverse.toArray } })
    (hsz : items.size ≤ sizeLine) : wpAny (model prog w) A (getItem (.ref t) (.ref sl)) Q E s := by
  have fits : sizeOk (.seq items.toList.reverse.toArray) := by
    show items.toList.reverse.toArray.size ≤ sizeLine
    rw [List.size_toArray, List.length_reverse, Array.length_toList]
    exact hsz
  obtain ⟨os, hos, hcs, hds⟩ := id hs
  have hT : s.TypeIs (.ref sl) "slice" := ⟨os, hos, hcs⟩
  unfold getItem
  try with_reducible refine wpAny_holding ?_
  first | refine wpAny_bind (wpAny_pure ?_) | skip
  refine wpAny_bind (wpAny_sequenceKey ht.typeIs (by decide) ?_)
  refine wpAny_bind (wpAny_callSpecial?_slot (name := Str.ofString "__getitem__") ht.typeIs PyProof.Rows.slot_tuple_getitem
    (wpAny_call_entry PyProof.Rows.slot_tuple_getitem ht.typeIs entry_tuple_getitem ?_ (args_tuple_getitem _ _)))
  show wpAny _ _ (Builtin.Tuple.tupleItemsOf (.ref t) >>= _) _ _ s
  refine wpAny_bind (tupleItemsOf_ ht (wpAny_bind (wpAny_typeOf hT ?_)))
  rw [if_pos (by decide)]
  refine wpAny_bind (applied_back hs ps ?_)
  have no : ¬ ((((items.size : Int) - 1) == 0 && (-1 : Int) == 1 && items.size == items.size) = true) := by
    intro q
    rw [Bool.and_eq_true, Bool.and_eq_true] at q
    exact absurd q.1.2 (by decide)
  show wpAny _ _ (if (((items.size : Int) - 1) == 0 && (-1 : Int) == 1 && items.size == items.size) = true then _ else _) _ _ s
  rw [if_neg no, pick_back]
  first
    | exact wpAny_bind (m := Builtin.Tuple.tupleExact _) (wpAny_newObj_type (wpAny_pure ⟨_, rfl, wpAny_pure h⟩) fits)
    | exact wpAny_bind (m := Builtin.Tuple.tupleExact _) (wpAny_newObj_type (wpAny_bind (wpAny_pure (wpAny_pure ⟨_, rfl, wpAny_pure h⟩))) fits)
    | exact wpAny_bind (wpAny_bind (m := Builtin.Tuple.tupleExact _) (wpAny_newObj_type (wpAny_pure (wpAny_pure ⟨_, rfl, wpAny_pure h⟩)) fits))
    | exact wpAny_bind (wpAny_bind (m := Builtin.Tuple.tupleExact _) (wpAny_newObj_type (wpAny_pure ⟨_, rfl, wpAny_pure h⟩) fits))
end
section
variable {X : Cx}
/-- x[::-1], a list or a tuple -/
def tRevA (K : PySem.W.Frag) (te : TE) : TE := fun σ H Q => te σ H fun x H1 => (∃ a xs, x = .ref a ∧ SqL K H1 a xs ∧ ∀ p, H1 p = none → Q (.ref p) (upd H1 p (.lst xs.reverse))) ∨
  (∃ a xs, x = .ref a ∧ SqT K H1 a xs ∧ ∀ p, H1 p = none → Q (.ref p) (upd H1 p (.tup xs.reverse)))
theorem pe_revA {e : Expr} {te : TE} {k : Nat} {p1 p2 p3 pos : Pos} (he : PE X e te) : PE X (.Subscript e (.Slice none none (some (.UnaryOp .USub (.Constant (.int 1) k p1) p2)) p3) pos) (tRevA X.K te) := by
  refine ⟨fun pins s σ H Q I h => Subscript_ (thn (he.run pins s σ H _ I h) fun v s1 ⟨x, H1, I1, r1, q1⟩ => ?_)⟩
  have hst : PO X (some (.UnaryOp .USub (.Constant (.int 1) k p1) p2)) (tPart (tUn (rU fun i => .int (-i)) (tC (.int 1)))) := po_some (pe_un un_neg pe_int)
  have xe : ∃ a, x = .ref a := by
    rcases q1 with ⟨a, _, e, _⟩ | ⟨a, _, e, _⟩ <;> exact ⟨a, e⟩
  obtain ⟨a, rfl⟩ := xe
  cases r1
  refine wpAny_Slice (thn (po_none.run pins s1 σ H1 (fun o H2 => o = none ∧ H2 = H1) I1 ⟨rfl, rfl⟩) fun vl s2 ⟨l, H2, I2, pl, el, e2⟩ => ?_)
  subst el e2
  refine thn (po_none.run pins s2 σ H2 (fun o H3 => o = none ∧ H3 = H2) I2 ⟨rfl, rfl⟩) fun vu s3 ⟨u, H3, I3, pu, eu, e3⟩ => ?_
  subst eu e3
  refine thn (hst.run pins s3 σ H3 (fun o H4 => o = some (-1) ∧ H4 = H3) I3 ⟨1, rfl, -1, rfl, rfl, rfl⟩) fun vs s4 ⟨o, H4, I4, ps, eo, e4⟩ => ?_
  subst eo e4
  generalize hs5 : ({ s4 with heap := s4.heap.push { cls := .type "slice", data := .fields #[vl, vu, vs] } } : Shared) = s5
  have hz5 : s5.heap = s4.heap.push { cls := .type "slice", data := .fields #[vl, vu, vs] } := by rw [← hs5]
  have I5 : Inv X pins σ H4 s5 := by
    rw [← hs5]
    exact I4.kept (t' := s4.toks) fun b ob q => Heap.get?_push_of_some _ q
  have sl : s5.heap.IsSliceOf s4.heap.objs.size vl vu vs := by
    rw [hz5]
    exact Heap.IsSliceOf.new _ vl vu vs
  show wpAny (model X.prog X.w) X.A (subscriptTail e (.Slice none none (some (.UnaryOp .USub (.Constant (.int 1) k p1) p2)) p3) (.ref a) (.ref s4.heap.objs.size)) (EP X pins σ Q) X.xe s5
  rcases q1 with ⟨a', xs, ea, hx, q⟩ | ⟨a', xs, ea, hx, q⟩
  · cases ea
    obtain ⟨its, r, ht, hz⟩ := I5.list hx
    have hlen := r.length
    refine tail_any (ops := [.ref a, .ref s4.heap.objs.size]) ht.isList.typeIs (PySem.slot_list_getitem.lookup) ?_ (by with_unfolding_all rfl)
    refine wpAny_getItem_list_slice ht.isList sl pl pu ps (by decide) ?_ (by rw [List.size_toArray]; omega)
    rw [PySem.W.krv_pick]
    refine ⟨.ref _, _, I5.laid (t' := s5.toks) (o := .lst xs.reverse) (fun b ob q => Heap.get?_push_of_some _ q) (Nat.le_refl _) ?_, rfl, q _ (I5.hok.fresh (Nat.le_refl _))⟩
    exact ⟨by rw [List.length_reverse]; exact hz, _, 0, r.reverse, Heap.get?_push_size _ rfl⟩
  · cases ea
    obtain ⟨its, r, ht, hz⟩ := I5.tuple hx
    have hlen := r.length
    refine tail_any (ops := [.ref a, .ref s4.heap.objs.size]) ht.typeIs (PyProof.Rows.slot_tuple_getitem.lookup) ?_ (by with_unfolding_all rfl)
    cases pl
    cases pu
    refine getItem_tuple_back ht sl ps ?_ (by rw [List.size_toArray]; omega)
    refine ⟨.ref _, _, I5.laid (t' := s5.toks) (o := .tup xs.reverse) (fun b ob q => Heap.get?_push_of_some _ q) (Nat.le_refl _) ?_, rfl, q _ (I5.hok.fresh (Nat.le_refl _))⟩
    exact ⟨by rw [List.length_reverse]; exact hz, _, r.reverse, _, Heap.get?_push_size _ rfl, rfl, 0, by simp⟩
end
/-! ### places -/
section
variable {K : KW} {XR : Nat → Option P → XK → Hp → Prop} {base : List Nat} {α β ν μ : Type} {Y : XK} {ex ex1 : List Addr} {bt bt1 : Bt} {H H1 : Hp} {st : Store}
variable {R : Hp → List Addr → Bt → ν → α → Prop} {R' : Hp → List Addr → Bt → μ → β → Prop} {Q : V → Hp → Prop}
theorem atI_rps {vs : List V} {ps : List P} {i : Int} {p : P} (r : Rps K H ex vs ps) (e : atI ps i = some p) : ∃ v, atI vs i = some v ∧ Rp K H ex v p := by
  unfold atI at e ⊢
  rw [r.length]
  cases h : ixN ps.length i with
  | none => rw [h] at e; cases e
  | some j =>
    rw [h] at e
    exact Rps.get' r e
theorem rpds_get : ∀ {vs : List V} {ps : List D} {i : Nat} {p : D}, RpDs K H ex bt vs ps → ps[i]? = some p → ∃ v, vs[i]? = some v ∧ RpD K H ex bt v p
  | _, _, _, _, .nil, e => by simp at e
  | _, _, 0, _, .cons r _, e => by simp at e; subst e; exact ⟨_, rfl, r⟩
  | _, _, i + 1, p, .cons _ t, e => by
    obtain ⟨v, h1, h2⟩ := rpds_get (i := i) (p := p) t (by simpa using e)
    exact ⟨v, by simpa using h1, h2⟩
theorem atI_rpds {vs : List V} {ps : List D} {i : Int} {p : D} (r : RpDs K H ex bt vs ps) (e : atI ps i = some p) : ∃ v, atI vs i = some v ∧ RpD K H ex bt v p := by
  unfold atI at e ⊢
  have hl : vs.length = ps.length := Paired.length r
  rw [hl]
  cases h : ixN ps.length i with
  | none => rw [h] at e; cases e
  | some j =>
    rw [h] at e
    exact rpds_get r e
theorem idx_ok {x y : V} {d e : D} (S : SRel K base ex bt st H) (rx : RpD K H ex bt x d) (ry : RpD K H ex bt y e) (h : Cont K XR base Y (RpD K) ex bt H (idxD d e st) Q) : rIx K x y H Q := by
  have gen : Cont K XR base Y (RpD K) ex bt H (((Ev.view d).bnd fun p => (Ev.view e).bnd fun q => (M.opt (idxP p q)).bnd fun r => M.ret (.p r)) st) Q → rIx K x y H Q := by
    intro h0
    obtain ⟨p, cx, -, h1⟩ := Cont.view S rx h0
    obtain ⟨q, cy, -, h2⟩ := Cont.view S ry h1
    obtain ⟨r, er, hf⟩ := Cont.opt h2
    clear h0 h1 h2 h
    unfold idxP at er
    split at er
    · obtain ⟨a, vs, rfl, h1, r1⟩ := cx.list
      obtain ⟨v, e1, r2⟩ := atI_rps r1 er
      exact .inl ⟨a, vs, _, v, rfl, cy.int, h1, e1, hf.val (d := .p r) S r2⟩
    · obtain ⟨a, vs, rfl, h1, r1⟩ := cx.tup
      obtain ⟨v, e1, r2⟩ := atI_rps r1 er
      exact .inr (.inl ⟨a, vs, _, v, rfl, cy.int, h1, e1, hf.val (d := .p r) S r2⟩)
    · split at er
      · rename_i hl
        simp only [Option.map_eq_some_iff] at er
        obtain ⟨c, e1, e2⟩ := er
        subst e2
        exact .inr (.inr ⟨_, _, c, cx.str, cy.int, by rw [line_eq]; exact hl, e1, hf.val S (.str _)⟩)
      · cases er
    · cases er
  cases d with
  | loc l =>
    have e0 : idxD (.loc l) e st = (match st[l]?, e with
      | some (.lst xs), .p (.int k) => (match atI xs k with
        | some d => .ok d st
        | none => .bad)
      | _, _ => .bad) := rfl
    rw [e0] at h
    split at h
    · rename_i xs k e1
      split at h
      · rename_i d e2
        obtain ⟨a, vs, h1, h2, h3⟩ := S.obj l xs e1
        obtain ⟨v, e3, r3⟩ := atI_rpds h3 e2
        have ry' : Rp K H ex y (.int k) := ry
        exact .inl ⟨a, vs, k, v, rx.2 a h1, (Cur.p ry').int, SqL.of h2, e3, h.val (d := d) S r3⟩
      · exact (show False from h).elim
    · exact (show False from h).elim
  | p d => exact gen h
  | scr ns => exact gen h
  | iset ns => exact gen h
  | tset ns => exact gen h
  | fn f => exact gen h
/-! ### slices -/
def rSlc (K : PySem.W.Frag) : V → Option Int → Option Int → Hp → VK → Prop := fun x lo hi H Q => (rSlL K x lo hi H Q ∨ rSlA K x lo hi H Q) ∨ rSlS x lo hi H Q
theorem sl_rSlc {X : Cx} : SlR X (rSlc X.K) := SlR.or (SlR.or sl_list sl_tupA) sl_str
theorem cut_rps {vs : List V} {ps : List P} (r : Rps K H ex vs ps) (lo hi : Option Int) : Rps K H ex (cutV vs lo hi) (cutL ps lo hi) := by
  unfold cutV cutL
  rw [r.length]
  exact (r.drop _).take _
theorem cut_whole {ps : List P} {lo hi : Option Int} (h : HT.sIx ps.length 0 lo = 0 ∧ HT.sIx ps.length ps.length hi = ps.length) : cutL ps lo hi = ps := by
  unfold cutL
  rw [h.1, h.2, List.drop_zero, Nat.sub_zero, List.take_length]
theorem slc_ok {x : V} {d : D} {lo hi : Option Int} (S : SRel K base ex bt st H) (rx : RpD K H ex bt x d)
    (h : Cont K XR base Y (RpD K) ex bt H (((Ev.view d).bnd fun p => (M.opt (slcP p lo hi)).bnd fun r => M.ret (.p r)) st) Q) : rSlc K x lo hi H Q := by
  obtain ⟨p, cx, -, h1⟩ := Cont.view S rx h
  obtain ⟨r, er, hf⟩ := Cont.opt h1
  clear h h1
  unfold slcP at er
  split at er
  · cases er
    obtain ⟨a, vs, rfl, h1, r1⟩ := cx.list
    exact .inl (.inl ⟨a, vs, rfl, h1, hf.lst S (cut_rps r1 lo hi)⟩)
  · cases er
    obtain ⟨a, vs, rfl, h1, r1⟩ := cx.tup
    refine .inl (.inr ⟨a, vs, rfl, h1, fun z => ?_, fun _ => hf.tup S (cut_rps r1 lo hi)⟩)
    rw [r1.length] at z
    rw [cut_whole z] at hf
    exact hf.val (d := .p (.tuple _)) S (.tup h1 r1)
  · split at er
    · rename_i hl
      cases er
      exact .inr ⟨_, cx.str, by rw [line_eq]; exact hl, hf.val S (.str _)⟩
    · cases er
  · cases er
theorem rev_ok {x : V} {d : D} (S : SRel K base ex bt st H) (rx : RpD K H ex bt x d)
    (h : Cont K XR base Y (RpD K) ex bt H (((Ev.view d).bnd fun p => (M.opt (revP p)).bnd fun r => M.ret (.p r)) st) Q) :
    (∃ a xs, x = .ref a ∧ SqL K H a xs ∧ ∀ p, H p = none → Q (.ref p) (upd H p (.lst xs.reverse))) ∨ (∃ a xs, x = .ref a ∧ SqT K H a xs ∧ ∀ p, H p = none → Q (.ref p) (upd H p (.tup xs.reverse))) := by
  obtain ⟨p, cx, -, h1⟩ := Cont.view S rx h
  obtain ⟨r, er, hf⟩ := Cont.opt h1
  clear h h1
  unfold revP at er
  split at er
  · cases er
    obtain ⟨a, vs, rfl, h1, r1⟩ := cx.list
    exact .inl ⟨a, vs, rfl, h1, hf.lst S r1.reverse⟩
  · cases er
    obtain ⟨a, vs, rfl, h1, r1⟩ := cx.tup
    exact .inr ⟨a, vs, rfl, h1, hf.tup S r1.reverse⟩
  · cases er
end
end Ev

end
section
/-! Ev 40: sets of ints: comprehensions, set(list). -/
namespace Ev
open PySem PySem.Spec PyProof.Rows L2 PpSet
section
variable {X : Cx}
/-- set.add of an int -/
theorem addI_ok {pins : List (Addr × Obj)} {σ : L2.St} {G : Hp} {u : Shared} {E : Value → Shared → Prop} {D : Addr} {S : Int → Bool} {n : Nat} {y : Int} {tk : Tok} {Q : Value → Shared → Prop} (J : Inv X pins σ G u) (eD : G D = some (SetO X.w D S n)) (room : n + 1 < scanBound)
    (h : ∀ u', Inv X pins σ (upd G D (SetO X.w D (fun j => S j || decide (j = y)) (if S y = true then n else n + 1))) u' → Q .none u') : wpAny (model X.prog X.w) X.A (call (.builtin "set.add") [.ref D, .int y tk]) Q E u := by
  refine setR_add (setO_get J eD) room fun g' sb2 nw => h _ (J.write (e := D) (t' := u.toks + 1) (by rw [eD]; trivial) (.inl rfl) (fun b o lb lo => (sb2.2 b lb).trans lo) ?_ (setO_new nw))
  obtain ⟨o, _, _, _, lo, _⟩ := nw
  exact ⟨o, lo⟩
def tScI (w : World) (wi : TI) (g : TG) (tt : TT) (te : TE) (vs : List Nat) : TE := fun σ H Q => wi σ H fun Jt H1 => ∀ D, H1 D = none → ∃ W : Nat → Nat → Hp → Prop, (∃ m, W 0 m (upd H1 D (SetO w D (fun _ => false) 0))) ∧ ∀ i m H, W i m H →
  (Jt.stop i H ∧ Q (.ref D) H) ∨ (Jt.go i H ∧ ∃ Ny : Hp → Prop, (∀ H', Ny H' → ∃ m', m' < m ∧ W (i + 1) m' H') ∧ ∀ x H', Jt.yld i H x H' → g x (wipe σ vs) H' fun σ2 G2 => wipe σ2 vs = wipe σ vs ∧ tt σ2 G2 fun b G3 =>
    if b = true then te σ2 G3 fun y H4 => ∃ (c : Int) (S : Int → Bool) (n : Nat), y = .int c ∧ H4 D = some (SetO w D S n) ∧ n + 1 < scanBound ∧ Ny (upd H4 D (SetO w D (fun j => S j || decide (j = c)) (if S c = true then n else n + 1))) else Ny G3)
theorem sci_core {pins : List (Addr × Obj)} {s : Shared} {σ : L2.St} {H : Hp} {Q : VK} {elt tg iter : Expr} {ifs : List Expr} {scope : Scope} {own : List (Str × Nat)} {pos pos' : Pos} {wi : TI} {g : TG} {tt : TT} {te : TE} {use : Option (Value → Sem Unit)} {Qg : Value → Shared → Prop}
    (hc : X.calm = true) (hN : X.N.Nodup) (I : Inv X pins σ H s) (hi : PI X tg iter wi) (ok : BlkOk X.N X.env.scope scope own)
    (hg : ∀ (s : Shared) (H : Hp) (C : Addr) (cl : List (Str × Addr)) (fq : List Addr), PG (X.blk s H scope (compEnvC scope cl C X.env) fq) tg g) (ht : ∀ (s : Shared) (H : Hp) (C : Addr) (cl : List (Str × Addr)) (fq : List Addr), PTs (X.blk s H scope (compEnvC scope cl C X.env) fq) ifs tt)
    (he : ∀ (s : Shared) (H : Hp) (C : Addr) (cl : List (Str × Addr)) (fq : List Addr), PE (X.blk s H scope (compEnvC scope cl C X.env) fq) elt te) (hs : ∀ x, foldedSetIterable iter X.env x = pure x)
    (h : tScI X.w wi g tt te (own.map (·.2)) σ H Q)
    (hRR : ∀ D C s' m H', Inv X pins σ H' s' → Q (.ref D) H' → s'.heap.Ns C m → FpOk X pins H' C → compPost (model X.prog X.w) X.A X.xe use Qg (.ref D) C (.ok .next) s') :
    wpAny (model X.prog X.w) X.A (comprehension (.SetComp elt [⟨tg, iter, ifs, 0⟩] scope pos) scope X.env pos' (newSet (.type "set")) false (eval iter X.env) use) Qg X.xe s := by
  have hfr : ∀ y ∈ scope.names, y.2 = .free → ∃ c, X.env.cells.lookup y.1 = some c := fun y hy e => by
    rcases ok.free y hy e with k | k
    · exact I.ok.has _ (.inl k)
    · exact I.ok.has _ (.inr k)
  refine wpAny_comprehension_free (use := use) rfl hs (closure_ok hfr) ok.kind (fun y hy e => by rw [ok.uniq y hy, e])
    (thn (hi.run pins s σ H _ I h) fun xv u1 lx => thn lx fun iv u2 l2 => ?_)
  obtain ⟨itr, fq, tm, Jt, G2, e, J2, Tt, zt2, g2, q⟩ := l2
  subst e
  refine newSet_ok (newEnv_comp ?_)
  generalize eD : u2.heap.objs.size = D
  have nD : G2 D = none := J2.hok.fresh (Nat.le_of_eq eD)
  obtain ⟨W, ⟨k0, v0⟩, trn_⟩ := q D nD
  generalize e3 : ({ u2 with heap := u2.heap.push { cls := .type "set", dict := none, data := .set #[] 0 (.fresh 0 0 (!X.w.params.followText "set-order")) } } : Shared) = u3
  have J3 : Inv X pins σ (upd G2 D (SetO X.w D (fun _ => false) 0)) u3 := by
    rw [← e3]
    refine J2.laid (t' := u2.toks) (fun b o e => Heap.get?_push_of_some _ e) (Nat.le_of_eq eD) ?_
    rw [← eD]
    exact setO_new (setR_fresh X.w)
  have k3 : u3.heap = u2.heap.push { cls := .type "set", dict := none, data := .set #[] 0 (.fresh 0 0 (!X.w.params.followText "set-order")) } := by rw [← e3]
  have lz : ∀ b ∈ fq, b < u2.heap.objs.size := fun b lb => by
    obtain ⟨o, e, _⟩ := Tt.obj _ _ zt2 b lb
    exact Heap.lt_size e
  have g3 : ∀ b ∈ fq, FpOk X pins (upd G2 D (SetO X.w D (fun _ => false) 0)) b ∧ b < u3.heap.objs.size := fun b lb => by
    have llt := lz b lb
    refine ⟨⟨?_, (g2 b lb).2⟩, by rw [k3, Heap.size_push]; exact Nat.lt_succ_of_lt llt⟩
    rw [upd_ne (by rw [← eD]; exact Nat.ne_of_lt llt)]
    exact (g2 b lb).1
  have zt3 : tm 0 u3.heap := Tt.keep _ _ _ zt2 fun b _ o e => by rw [k3]; exact Heap.get?_push_of_some _ e
  have J4 := block_start J3 ok hN g3
  have qg := hg u3 (upd G2 D (SetO X.w D (fun _ => false) 0)) u3.heap.objs.size (cellsFrom (u3.heap.objs.size + 1) scope.names (cloFrom X.env.cells scope.names [])) fq
  have qt := ht u3 (upd G2 D (SetO X.w D (fun _ => false) 0)) u3.heap.objs.size (cellsFrom (u3.heap.objs.size + 1) scope.names (cloFrom X.env.cells scope.names [])) fq
  have qe := he u3 (upd G2 D (SetO X.w D (fun _ => false) 0)) u3.heap.objs.size (cellsFrom (u3.heap.objs.size + 1) scope.names (cloFrom X.env.cells scope.names [])) fq
  show codeAny _ _ (.compStart (.SetComp elt [⟨tg, iter, ifs, 0⟩] scope pos) 0 (.ref itr) (.ref D) (compEnvC scope (cellsFrom (u3.heap.objs.size + 1) scope.names (cloFrom X.env.cells scope.names [])) u3.heap.objs.size X.env)) (compPost (model X.prog X.w) X.A X.xe use Qg (.ref D) u3.heap.objs.size) { u3 with heap := pushCells (u3.heap.push { cls := .type "dict", data := .dict #[] }) scope.names }
  have nfq : ∀ b ∈ fq, (upd G2 D (SetO X.w D (fun _ => false) 0)) b = none := fun b lb => (g3 b lb).1.1
  generalize ece : compEnvC scope (cellsFrom (u3.heap.objs.size + 1) scope.names (cloFrom X.env.cells scope.names [])) u3.heap.objs.size X.env = cn at J4 qg qt qe ⊢
  have dL : cn.locals = u3.heap.objs.size := by subst ece; rfl
  generalize eG3 : upd G2 D (SetO X.w D (fun _ => false) 0) = G3 at J3 J4 qg qt qe v0 nfq g3
  generalize e4 : ({ u3 with heap := pushCells (u3.heap.push { cls := .type "dict", data := .dict #[] }) scope.names } : Shared) = u4 at J4 ⊢
  have zt4 : tm 0 u4.heap := Tt.keep _ _ _ zt3 fun b _ o e => by rw [← e4]; exact pushCells_keeps _ _ _ _ (Heap.get?_push_of_some _ e)
  have stt : ∀ {σ' : L2.St} {H' : Hp} {s' : Shared}, Inv (X.blk u3 G3 scope cn fq) [] σ' H' s' → (∀ b ∈ fq, H' b = none) → ∀ b ∈ fq, FpOk (X.blk u3 G3 scope cn fq) [] H' b := fun {σ' H' s'} I' en b lb =>
    ⟨en b lb, (I'.ok.exf b lb).1, I'.ok.exfs b lb, .inl lb, fun x c e => (I'.ok.exf b lb).2 x c e, fun p hp => absurd (show p ∈ ([] : List (Addr × Obj)) ++ [] from hp) (by simp)⟩
  have lp : codeAny (model X.prog X.w) X.A (.compLoop (.SetComp elt [⟨tg, iter, ifs, 0⟩] scope pos) 0 (.ref itr) (.ref D) cn) (compPost (model X.prog X.w) X.A X.xe use Qg (.ref D) u3.heap.objs.size) u4 := by
    refine compLoopS_any (fun n s' => ∃ i H', Inv (X.blk u3 G3 scope cn fq) [] (wipe σ (own.map (·.2))) H' s' ∧ tm i s'.heap ∧ (∀ b ∈ fq, H' b = none) ∧ W i n H') ?_ k0 ⟨0, G3, J4, zt4, nfq, v0⟩
    rintro n u5 ⟨i, G5, J5, zt5, o5, v5⟩
    rcases trn_ i n G5 v5 with ⟨sp, qz⟩ | ⟨gg, Ny, lNx, sq⟩
    · have tdn := Tt.done (X.blk u3 G3 scope cn fq) rfl rfl rfl hc i [] u5 _ G5 (fun _ _ => False) J5 (stt J5 o5) zt5 sp
      refine thnF tdn fun r u6 ⟨lr, J6⟩ => ?_
      subst lr
      have J7 : Inv X pins σ G5 u6 := J3.call' (ch := fq) J6.os J6.base J6.hok J6.bare fun b lb => ⟨(g3 b lb).1.2.2.2.1, (g3 b lb).1.2.1, (g3 b lb).1.2.2.2.2.1, (g3 b lb).1.2.2.2.2.2⟩
      have mC : G5 u3.heap.objs.size = none := by
        have z : G5 cn.locals = none := J6.free
        rw [dL] at z
        exact z
      obtain ⟨m, en, _⟩ := J6.loc
      have en : u6.heap.Ns cn.locals m := en
      rw [dL] at en
      exact hRR D u3.heap.objs.size u6 m G5 J7 qz en (J3.fpOk (Nat.le_refl _) mC)
    · have tit := Tt.item (X.blk u3 G3 scope cn fq) rfl rfl rfl hc i [] u5 _ G5 (fun _ _ => False) J5 (stt J5 o5) zt5 gg
      refine thnF tit fun r u6 ⟨u, lr, h6⟩ => ?_
      subst lr
      refine thnF h6 fun _ u7 ⟨x, G7, J7, t7, x7, zt7, o7⟩ => ?_
      have I7' := J7.pinned (stt J7 o7) (Tt.obj _ _ zt7)
      refine thnF (qg.run _ u7 _ G7 x u _ I7' t7 (sq x G7 x7)) fun _ u8 ⟨σ8, G8, J8, hv8, p8⟩ => ?_
      refine thnF (qt.run _ u8 σ8 G8 _ J8 p8) fun b u9 ⟨G9, J9, p9⟩ => ?_
      have fnl : ∀ {s' : Shared} {H' : Hp}, Inv (X.blk u3 G3 scope cn fq) ([] ++ pinsAt fq u7.heap) σ8 H' s' → Ny H' → ∃ m, m < n ∧ ∃ i H', Inv (X.blk u3 G3 scope cn fq) [] (wipe σ (own.map (·.2))) H' s' ∧ tm i s'.heap ∧ (∀ b ∈ fq, H' b = none) ∧ W i m H' := fun {s' H'} I' ny => by
        obtain ⟨m', lm, w'⟩ := lNx H' ny
        have pn' : ∀ b ∈ fq, ∀ o, u7.heap.get? b = some o → s'.heap.get? b = some o ∧ H' b = none := fun b lb o e =>
          let z := I'.pin (b, o) (List.mem_append_right _ (List.mem_append_right _ (mem_pinsAt lb e)))
          ⟨z.1, z.2.1⟩
        have ll : (wipe σ (own.map (·.2))).length = σ8.length := by rw [← hv8, wipe_length]
        refine ⟨m', lm, i + 1, H', (I'.unpinned (pins := [])).weak ll (fun j v e => ?_), Tt.keep _ _ _ zt7 fun b lb o e => (pn' b lb o e).1, fun b lb => ?_, w'⟩
        · rw [← hv8] at e
          exact (wipe_some e).1
        · obtain ⟨o, e, _⟩ := Tt.obj _ _ zt7 b lb
          exact (pn' b lb o e).2
      cases b with
      | false =>
        simp only [Bool.false_eq_true, if_false] at p9 ⊢
        exact fnl J9 p9
      | true =>
        simp only [if_true] at p9 ⊢
        refine thnF (qe.run _ u9 σ8 G9 _ J9 p9) fun z u10 ⟨yv, G10, J10, r10, cb, S0, n0, ey, hD10, hz10, ny⟩ => ?_
        subst ey
        obtain ⟨tk, rfl⟩ : ∃ tk, z = Value.int cb tk := r10
        exact addI_ok (X := X.blk u3 G3 scope cn fq) J10 hD10 hz10 fun u11 J11 => fnl J11 ny
  exact codeAny_compStart_set lp (Tt.self X.A 0 _ _ _ zt4 lp)
theorem pe_scI {elt tg iter : Expr} {ifs : List Expr} {scope : Scope} {own : List (Str × Nat)} {pos : Pos} {wi : TI} {g : TG} {tt : TT} {te : TE} (hc : X.calm = true) (hN : X.N.Nodup) (hi : PI X tg iter wi) (ok : BlkOk X.N X.env.scope scope own)
    (hg : ∀ (s : Shared) (H : Hp) (C : Addr) (cl : List (Str × Addr)) (fq : List Addr), PG (X.blk s H scope (compEnvC scope cl C X.env) fq) tg g) (ht : ∀ (s : Shared) (H : Hp) (C : Addr) (cl : List (Str × Addr)) (fq : List Addr), PTs (X.blk s H scope (compEnvC scope cl C X.env) fq) ifs tt)
    (he : ∀ (s : Shared) (H : Hp) (C : Addr) (cl : List (Str × Addr)) (fq : List Addr), PE (X.blk s H scope (compEnvC scope cl C X.env) fq) elt te) (hs : ∀ x, foldedSetIterable iter X.env x = pure x := by intro _; rfl) :
    PE X (.SetComp elt [⟨tg, iter, ifs, 0⟩] scope pos) (tScI X.w wi g tt te (own.map (·.2))) := by
  refine ⟨fun pins s σ H Q I h => ?_⟩
  rw [eval_SetComp]
  refine sci_core hc hN I hi ok hg ht he hs h fun D C s' m H' I' q en f => ⟨m, en, fun h'' sbb => ?_⟩
  obtain ⟨f0, f1, g2, g3, f4, f5⟩ := f
  exact ⟨.ref D, H', I'.turned (t' := s'.toks) (fun b o lb e => (sbb.2 b lb).trans e) f0 f1 g3 f4 f5, rfl, q⟩
end
section
variable {P : Program} {w : World} {A : Around} {E : Value → Shared → Prop} {s : Shared}
theorem call_set_lstI {l : Addr} {us : Array Value} (ns : List Int) {Q : Value → Shared → Prop} (hd : A.handled = none) (ll : s.heap.IsList l us) (its_ : IntsAre us.toList ns) (lb : ns.length + 1 < scanBound)
    (h : ∀ (h' : Heap) (tk c : Nat), SetR w h' s.heap.objs.size (fun j => decide (j ∈ ns)) c → c ≤ ns.length → (∀ b o, s.heap.get? b = some o → h'.get? b = some o) → Q (.ref s.heap.objs.size) { s with heap := h', toks := tk }) :
    wpAny (model P w) A (call (.type "set") [.ref l]) Q E s := by
  have lsz : us.size = ns.length := by
    have q := IntsAre.length its_
    rw [Array.length_toList] at q
    exact q
  obtain ⟨c, tl, lmro⟩ := F.called_set.mro
  have lmade := F.called_set.made
  have lsub := F.called_set.sub
  refine wpAny_call (codeAny_of_tree ?_)
  show wpAny _ _ (callAny (.type "set") _) _ _ _
  refine wpAny_pure ⟨Code.quiet_builtin _ (by decide +kernel), codeAny_builtin F.entry_type_call ?_⟩
  rw [Around.under_plain (weight_type_call_type "set" [.ref l] []) rfl]
  have h1 := F.called_set.notType
  have l2 := F.called_set.canCreate
  have lct := F.typeCall_set_1 (.ref l)
  repeat (any_goals (first | assumption | wp_step))

  refine codeAny_mono (code_set_led1 (.ref l) (E := E) (Q₁ := fun obj s₁ => obj = .ref s.heap.objs.size ∧ s₁ = { s with heap := s.heap.push { cls := .type "set", dict := none, data := .set #[] 0 (.fresh 0 0 (!w.params.followText "set-order")) } }) ⟨rfl, rfl⟩) fun r s₁ lr => ?_
  cases r with
  | error e => exact lr
  | ok fl =>
    cases fl with
    | ret obj =>
      obtain ⟨rfl, rfl⟩ := lr
      have lS : (s.heap.push { cls := .type "set", dict := none, data := .set #[] 0 (.fresh 0 0 (!w.params.followText "set-order")) }).get? s.heap.objs.size = some { cls := .type "set", dict := none, data := .set #[] 0 (.fresh 0 0 (!w.params.followText "set-order")) } := Heap.get?_push_size _ rfl
      have lT : Shared.TypeIs { s with heap := s.heap.push { cls := .type "set", dict := none, data := .set #[] 0 (.fresh 0 0 (!w.params.followText "set-order")) } } (.ref s.heap.objs.size) "set" := ⟨_, lS, rfl⟩
      have lli := F.called_set.init.lookup
      have lbi := F.called_set.init.bind (.ref s.heap.objs.size)
      repeat (any_goals (first | assumption | wp_step))

      refine codeAny_mono (codeAny_call_builtin (R := wants (fun r s₂ => r = .none ∧ ∃ h' tk c, s₂ = { s with heap := h', toks := tk } ∧ SetR w h' s.heap.objs.size (fun j => decide (j ∈ ns)) c ∧ c ≤ ns.length ∧
          (∀ b o, s.heap.get? b = some o → h'.get? b = some o)) E) F.called_set.init.plain F.entry_set_init (check_set_init_1 lT ?_)) fun r₂ s₂ lr₂ => ?_
      · obtain ⟨oo, loo, lcl, mm, ldl⟩ := ll
        obtain ⟨ocls, odict, odata, oslots⟩ := oo
        simp only at lcl ldl
        subst lcl; subst ldl
        have loo' : (s.heap.push { cls := .type "set", dict := none, data := .set #[] 0 (.fresh 0 0 (!w.params.followText "set-order")) }).get? l = some { cls := .type "list", dict := odict, data := .seq us mm, slots := oslots } := Heap.get?_push_of_some _ loo
        have lls := F.sub_list_set
        have llf := F.sub_list_frozenset
        have lne : (Value.type "list" == Value.type "dict") = false := by decide
        have ll1 : (s.heap.push { cls := .type "set", dict := none, data := .set #[] 0 (.fresh 0 0 (!w.params.followText "set-order")) }).IsList l us := ⟨_, loo', rfl, mm, rfl⟩
        unfold Builtin.«set.__init__» noKeywords Builtin.Frozenset.updateFrom
        generalize lPJ : pyIter = PJ
        wp_walk
        subst lPJ

        refine wpAny_pyIter_list ll1 ?_
        refine wpAny_bind (wpAny_runValue ?_)
        have llS : l < s.heap.objs.size := Heap.lt_size loo
        have lh3 : A.in1.in1.in1.handled = none := by simp [hd]
        have lz1 : (s.heap.push { cls := .type "set", dict := none, data := .set #[] 0 (.fresh 0 0 (!w.params.followText "set-order")) }).objs.size = s.heap.objs.size + 1 := Heap.size_push ..
        have lnI : l ≠ (s.heap.push { cls := .type "set", dict := none, data := .set #[] 0 (.fresh 0 0 (!w.params.followText "set-order")) }).objs.size := by
          rw [Heap.size_push]; exact Nat.ne_of_lt (Nat.lt_succ_of_lt llS)
        have lSf : s.heap.objs.size ∉ [(s.heap.push { cls := .type "set", dict := none, data := .set #[] 0 (.fresh 0 0 (!w.params.followText "set-order")) }).objs.size, l] := by
          rw [Heap.size_push]; simp only [List.mem_cons, List.mem_singleton, List.not_mem_nil, or_false, not_or]
          exact ⟨Nat.ne_of_lt (Nat.lt_succ_self _), Nat.ne_of_gt llS⟩
        have lval : ∀ (i : Nat) (v : Value), us[i]? = some v → ∃ k t, ns[i]? = some k ∧ v = .int k t := fun i v hv => by
          have hi : i < ns.length := by rw [← lsz]; exact (Array.getElem?_eq_some_iff.mp hv).1
          obtain ⟨t, e⟩ := PyProof.Rows.IntsAre.int_at its_ i v (by rw [Array.getElem?_toList]; exact hv)
          refine ⟨ns[i], t, List.getElem?_eq_getElem hi, ?_⟩
          rw [e, List.getD_eq_getElem?_getD, List.getElem?_eq_getElem hi] <;> rfl
        refine set_update_ints ((Walks.list lh3 _ l lnI us).toS) s.heap.objs.size
          lSf ns lsz lb lval (us.size - 0) 0 _ (by omega) (Nat.zero_le _)
          ⟨⟨_, Heap.get?_push_size _ rfl, rfl, rfl⟩, (ll1.push _)⟩ ?hS0 ?hR
        case hS0 =>
          have lget : ((s.heap.push { cls := .type "set", dict := none, data := .set #[] 0 (.fresh 0 0 (!w.params.followText "set-order")) }).push { cls := .type "list_iterator", data := .fields #[.ref l, .int 0 0] }).get? s.heap.objs.size
              = some { cls := .type "set", dict := none, data := .set #[] 0 (.fresh 0 0 (!w.params.followText "set-order")) } := Heap.get?_push_of_some _ lS
          exact ⟨0, Nat.le_refl 0, setR_new_at lget⟩
        case hR =>
          intro s' c' lm lc' lS'
          obtain ⟨h', g2, d', tk', os'⟩ := s'
          have eg1 : g2 = s.gens := lm.gens
          have ed1 : d' = s.drawn := lm.drawn
          have eo1 : os' = s.os := lm.os
          subst eg1; subst ed1; subst eo1
          show wpAny _ _ _ _ _ _
          refine wpAny_pure ?_
          show wpAny _ _ (ret Value.none) _ _ _
          rw [lsz] at lc'
          refine wpAny_pure ⟨rfl, h', tk', c', rfl, lS', lc', fun b o e => ?_⟩
          have lb0 : b < s.heap.objs.size := Heap.lt_size e
          have lb1 : b ≠ s.heap.objs.size := Nat.ne_of_lt lb0
          have lb2 : b ≠ (s.heap.push { cls := .type "set", dict := none, data := .set #[] 0 (.fresh 0 0 (!w.params.followText "set-order")) }).objs.size := by
            rw [Heap.size_push]; exact Nat.ne_of_lt (Nat.lt_succ_of_lt lb0)
          exact lm.heap b o (by simp only [List.mem_cons, List.mem_singleton, List.not_mem_nil, or_false, not_or]; exact ⟨lb1, lb2⟩) (Heap.get?_push_of_some _ (Heap.get?_push_of_some _ e))

      · cases r₂ with
        | error e => exact lr₂
        | ok fl₂ =>
          cases fl₂ with
          | ret r =>
            obtain ⟨rfl, h', tk, c', rfl, lS', lc', lk'⟩ := lr₂
            repeat (any_goals (first | assumption | wp_step))
            exact h _ _ _ lS' lc' lk'
          | _ => exact lr₂.elim
    | _ => exact lr.elim

end
end Ev

end
section
/-! Ev 42: sets of ints, by the store. -/
namespace Ev
open PySem PySem.Spec PyProof.Rows L2 PpSet
theorem once_mem : ∀ (xs : List Int) (k : Int), k ∈ onceI xs ↔ k ∈ xs
  | [], _ => Iff.rfl
  | x :: xs, k => by
    simp only [onceI, List.mem_cons, List.mem_filter, once_mem xs k, Bool.not_eq_true', decide_eq_false_iff_not]
    by_cases e : k = x
    · simp [e]
    · simp [e]
theorem once_nodup : ∀ xs : List Int, (onceI xs).Nodup
  | [] => List.nodup_nil
  | x :: xs => by
    simp only [onceI, List.nodup_cons]
    refine ⟨fun h => ?_, (once_nodup xs).filter _⟩
    have := (List.mem_filter.mp h).2
    simp at this
theorem setR_count {w : World} {h : Heap} {a : Addr} {S : Int → Bool} {n : Nat} (R : SetR w h a S n) {ms : List Int} (nd : ms.Nodup) (hm : ∀ k, k ∈ ms ↔ S k = true) : ms.length = n := by
  obtain ⟨o, es, ep, t, _, _, _, _, kd, km, _, _, hn, _⟩ := R
  have pm : ms.Perm (es.toList.map keyOf) := (List.perm_ext_iff_of_nodup nd kd).mpr fun k => (hm k).trans (km k)
  rw [pm.length_eq, List.length_map, Array.length_toList, hn]
section
variable {X : Cx}
/-- set(xs), xs a list of ints -/
def rSetOfI (K : PySem.W.Frag) (w : World) : List V → Hp → VK → Prop := fun xs H Q => ∃ (l : Addr) (ns : List Int), xs = [V.ref l] ∧ (SqL K H l (ns.map V.int) ∨ SqT K H l (ns.map V.int)) ∧ ns.length < 4000 ∧
  ∀ p, H p = none → Q (.ref p) (upd H p (SetO w p (fun j => decide (j ∈ ns)) (onceI ns).length))
theorem cr_setOfI (hc : X.calm = true) : CallR X (.type "set") (rSetOfI X.K X.w) := by
  intro pins s σ H xs us Q I r h
  obtain ⟨l, ns, rfl, hl, hf, q⟩ := h
  rw [Vals.ref1 r]
  rcases hl with hl | hl
  · obtain ⟨its, rv, pl, hz⟩ := I.list hl
    refine call_set_lstI ns (I.ok.hd hc) pl.isList (by simpa using ints_of_vals rv) (by show ns.length + 1 < 4096; omega) fun g tk c R lc k => ?_
    have e := setR_count R (once_nodup ns) fun k => by rw [once_mem, decide_eq_true_eq]
    exact ⟨.ref s.heap.objs.size, _, I.laid (t' := tk) k (Nat.le_refl _) (setO_new R), rfl, by rw [← e]; exact q _ (I.hok.fresh (Nat.le_refl _))⟩
  · obtain ⟨its, rv, pl, hz⟩ := I.tuple hl
    refine call_set_tupI ns (I.ok.hd hc) pl (by simpa using ints_of_vals rv) (by show ns.length + 1 < 4096; omega) fun g tk c R lc k => ?_
    have e := setR_count R (once_nodup ns) fun k => by rw [once_mem, decide_eq_true_eq]
    exact ⟨.ref s.heap.objs.size, _, I.laid (t' := tk) k (Nat.le_refl _) (setO_new R), rfl, by rw [← e]; exact q _ (I.hok.fresh (Nat.le_refl _))⟩
/-- len(a set of ints) -/
def rLenSetO (w : World) : List V → Hp → VK → Prop := fun xs H Q => ∃ (a : Addr) (S : Int → Bool) (n : Nat), xs = [V.ref a] ∧ H a = some (SetO w a S n) ∧ Q (.int n) H
theorem cr_lenSetO : CallR X (.builtin "len") (rLenSetO X.w) := by
  intro pins s σ H xs us Q I r h
  obtain ⟨a, S, n, rfl, ha, q⟩ := h
  rw [Vals.ref1 r]
  obtain ⟨o, es, ep, t, lo, lx, ld, _, _, _, lb, lf, en, _⟩ := setO_get I ha
  refine call_len_set lo lx ld lf (by have : es.size < 4096 := lb; omega) ⟨.int n, H, I.tok _, ⟨_, by rw [en]⟩, q⟩
/-- len(a set of tuples of ints) -/
def rLenSetT (P : Program) (w : World) : List V → Hp → VK → Prop := fun xs H Q => ∃ (a : Addr) (L : List (Addr × List Int)) (n : Nat), xs = [V.ref a] ∧ H a = some (SetTO P w a L) ∧ ((L.map (·.2)).Nodup → L.length = n) ∧ Q (.int n) H
theorem cr_lenSetT : CallR X (.builtin "len") (rLenSetT X.prog X.w) := by
  intro pins s σ H xs us Q I r h
  obtain ⟨a, L, n, rfl, ha, hn, q⟩ := h
  rw [Vals.ref1 r]
  have R : SetT0 X.prog X.w s.heap a L := (I.hok _ _ ha).1
  obtain ⟨es, ep, t, ⟨o, lo, lx, ld⟩, hrows, htab, hnd, hpl, hled, hroom, hfew⟩ := R.ex
  have e1 : es.size = L.length := by
    have h := congrArg List.length hrows
    unfold rowsOf at h
    rwa [Array.length_toList, List.length_map] at h
  have hfit : t.fits es.size = true := by
    have h1 := htab.sz
    rw [List.length_map] at h1
    unfold SetTable.fits SetTable.fill
    rw [htab.dm, Bool.and_eq_true, beq_iff_eq, decide_eq_true_eq]
    show t.place.size = es.size ∧ t.place.size + 0 ≤ t.mask
    omega
  refine call_len_set lo lx ld hfit (by omega) ⟨.int n, H, I.tok _, ⟨_, by rw [e1, hn hnd]⟩, q⟩
end
theorem onceT_mem : ∀ (xs : List (List Int)) (k : List Int), k ∈ onceT xs ↔ k ∈ xs
  | [], _ => Iff.rfl
  | x :: xs, k => by
    simp only [onceT, List.mem_cons, List.mem_filter, onceT_mem xs k, Bool.not_eq_true', decide_eq_false_iff_not]
    by_cases e : k = x
    · simp [e]
    · simp [e]
theorem onceT_nodup : ∀ xs : List (List Int), (onceT xs).Nodup
  | [] => List.nodup_nil
  | x :: xs => by
    simp only [onceT, List.nodup_cons]
    refine ⟨fun h => ?_, (onceT_nodup xs).filter _⟩
    have := (List.mem_filter.mp h).2
    simp at this
end Ev

end
section
/-! Ev 41: sorted of a tuple. -/
namespace PyProof.Rows
open PySem PySem.Spec PySem.Calls
section
variable {prog : Program} {w : World} {A : Around} {E : Value → Shared → Prop} {s : Shared}
/-- a tuple's items, gathered -/
theorem evGather {a : Addr} {us : List Value} {Q : List Value → Shared → Prop} (ht : s.heap.IsTuple a us.toArray) (hz : us.length ≤ sizeLine)
    (q : Q us { s with heap := (s.heap.push (seqObj "list" #[] 0)).update s.heap.objs.size (Obj.mapSeq (· ++ us.toArray)) }) :
    wpAny (model prog w) A (collect (.ref a)) Q E s := by
  obtain ⟨ob, lo, lc, n, ld⟩ := id ht
  unfold collect
  refine wpAny_bind (wpAny_runValue (codeAny_builtin (entry_proto_collect') ?_))
  show wpAny _ _ (do again (.builtin "list.__iadd__" ⟨[← newList [], .ref a], []⟩)) _ _ s
  refine wpAny_bind (wpAny_newList (wpAny_pure ⟨(Code.quiet_builtin _ (by decide +kernel)), codeAny_builtin (entry_list_iadd') ?_⟩))
  show wpAny _ _ (Builtin.List.listExtendWith (.ref s.heap.objs.size) (.ref a) (.ref s.heap.objs.size)) _ _ { s with heap := s.heap.push (seqObj "list" #[] 0) }
  unfold Builtin.List.listExtendWith
  have lo' : (s.heap.push (seqObj "list" #[] 0)).get? a = some ob := Heap.get?_push_of_some _ lo
  refine wpAny_bind (wpAny_typeOf (T := "tuple") ⟨ob, lo', lc⟩ ?_)
  have e1 : (Value.type "tuple" == Value.type "tuple") = true := by rfl
  rw [if_pos (by rw [e1]; simp)]
  refine wpAny_bind (listItems_at lo' ld ?_)
  refine wpAny_bind (listItems_at (xs := #[]) (n := 0) ((Heap.get?_push_size _ rfl)) rfl ?_)
  rw [if_neg (by simp)]
  refine wpAny_bind (listUpdate_at (xs := #[]) (n := 0) (Heap.get?_push_size _ rfl) rfl ?_ (Nat.zero_le _) (by show (#[] ++ us.toArray).size ≤ sizeLine + 1; simp only [Array.size_append, List.size_toArray, List.length_nil]; omega))
  refine wpAny_pure ?_
  show wpAny (model prog w) A (do
      let ob ← load s.heap.objs.size
      match ob.data with
      | .seq zs _ => pure zs.toList
      | _ => unsupported "internal:collect") Q E { s with heap := (s.heap.push (seqObj "list" #[] 0)).update s.heap.objs.size (Obj.mapSeq (· ++ us.toArray)) }
  refine wpAny_bind (wpAny_load (get?_update_seq ((Heap.get?_push_size _ rfl)) _) ?_)
  show wpAny _ _ (pure ((#[] : Array Value) ++ us.toArray).toList) Q E _
  rw [show ((#[] : Array Value) ++ us.toArray).toList = us by simp]
  exact wpAny_pure q
/-- sorted(a tuple) -/
theorem evSorted {κ : KeyKind} (hO : κ.OneLt) {a : Addr} {us : List Value} {Q : Value → Shared → Prop} (ht : s.heap.IsTuple a us.toArray) (h0 : KeysOf κ (pairsOf us)) (hk : ∀ u₁ u₂ rest, us = u₁ :: u₂ :: rest → keyKind' (u₁ :: u₂ :: rest).toArray = pure oneType') (hz : us.length ≤ sizeLine)
    (h : ∀ st' : SortSt, (arrOf st').Perm (pairsOf us) → SortedToK κ (arrOf st') (pairsOf us).size → Q (.ref (s.heap.objs.size + 1)) { s with heap := sortedAll s.heap us ((arrOf st').map (·.2)) }) :
    wpAny (model prog w) A (call (.builtin "sorted") [.ref a]) Q E s := by
  refine Calls.call_function_entry (kind_sorted) plain_sorted entry_sorted (args_sorted1 _) ?_
  unfold Builtin.«sorted»
  refine wpAny_bind (m := (checkCount "sorted" 1 1 _)) (wpAny_pure ?_)
  refine wpAny_bind (evGather ht hz ?_)
  refine wpAny_bind (wpAny_newList ?_ (hz))
  have e1 : ((s.heap.push (seqObj "list" #[] 0)).update s.heap.objs.size (Obj.mapSeq (· ++ us.toArray))).objs.size = s.heap.objs.size + 1 := by
    rw [Heap.size_update, size_push']
  have e2 : (((s.heap.push (seqObj "list" #[] 0)).update s.heap.objs.size (Obj.mapSeq (· ++ us.toArray))).push (seqObj "list" us.toArray 0)).get? (s.heap.objs.size + 1) = some (seqObj "list" us.toArray 0) := by
    rw [← e1]; exact Heap.get?_push_size _ rfl
  show wpAny _ _ _ _ _ { s with heap := ((s.heap.push (seqObj "list" #[] 0)).update s.heap.objs.size (Obj.mapSeq (· ++ us.toArray))).push (seqObj "list" us.toArray 0) }
  rw [e1]
  refine wpAny_bind (wpAny_holding (wpAny_call_entry slot_list_sort ⟨_, e2, rfl⟩ entry_list_sort (list_sort_treeKAny hO e2 h0 hk hz fun st' a1 a2 => ⟨_, rfl, ?_⟩) (args_list_sort _)))
  exact wpAny_pure ⟨_, rfl, h st' a1 a2⟩
end
end PyProof.Rows
namespace Ev
open PySem PySem.Spec PyProof.Rows L2
section
variable {X : Cx}
/-- sorted(xs), xs a tuple of ints -/
def rSortedIT (K : PySem.W.Frag) : List V → Hp → VK → Prop := fun vs H Q => ∃ (a : Addr) (ns : List Int), vs = [V.ref a] ∧ SqT K H a (ns.map V.int) ∧
  ∀ (ms : List Int) (p : Addr), ms.Perm ns → ms.Pairwise (· ≤ ·) → H p = none → Q (.ref p) (upd H p (.lst (ms.map V.int)))
theorem cr_sortedIT : CallR X (.builtin "sorted") (rSortedIT X.K) := by
  intro pins s σ H vs us Q I r h
  obtain ⟨a, ns, rfl, hs, q⟩ := h
  obtain ⟨its, rv, hl, hz⟩ := I.tuple hs
  rw [Vals.ref1 r]
  have hi := rv.ints
  have hz2 : its.length ≤ sizeLine := by rw [← rv.length]; exact hz
  refine PyProof.Rows.evSorted intKind_oneLt hl (hi.keysOfInt) (fun u₁ u₂ rest e => keyKind_ints (by rw [← e]; exact hi)) hz2 fun st' b1 b2 => ?_
  obtain ⟨ms, k1, k2, k3⟩ := sorted_out hi b1 (sortedTo_of_int b2)
  obtain ⟨ep, he⟩ := PyProof.Rows.sortedAll_at s.heap its ((arrOf st').map (·.2))
  have hlen : (ms.map V.int).length ≤ sizeLine := by
    rw [List.length_map, k2.length_eq]
    rw [List.length_map] at hz
    exact hz
  exact ⟨.ref _, upd H (s.heap.objs.size + 1) (.lst (ms.map V.int)), I.laid (t' := s.toks) (fun _ _ => PyProof.Rows.sortedAll_old) (Nat.le_succ _) ⟨hlen, _, ep, vals_of_ints k1, he⟩, rfl, q _ _ k2 k3 (I.hok.fresh (Nat.le_succ _))⟩
/-- sorted(xs), xs a tuple of texts -/
def rSortedST (K : PySem.W.Frag) : List V → Hp → VK → Prop := fun vs H Q => ∃ (a : Addr) (xs : List Str), vs = [V.ref a] ∧ SqT K H a (xs.map V.str) ∧
  ∀ (ys : List Str) (p : Addr), ys.Perm xs → sortedS ys = true → H p = none → Q (.ref p) (upd H p (.lst (ys.map V.str)))
theorem cr_sortedST : CallR X (.builtin "sorted") (rSortedST X.K) := by
  intro pins s σ H vs us Q I r h
  obtain ⟨a, xs, rfl, hs, q⟩ := h
  obtain ⟨its, rv, hl, hz⟩ := I.tuple hs
  rw [Vals.ref1 r]
  have hi := rv.strs
  have hz2 : its.length ≤ sizeLine := by rw [← rv.length]; exact hz
  refine PyProof.Rows.evSorted strKind_oneLt hl (hi.keysOf) (fun u₁ u₂ rest e => keyKind_strs (by rw [← e]; exact hi)) hz2 fun st' b1 b2 => ?_
  obtain ⟨ys, k1, k2, k3⟩ := sorted_out_str hi b1 b2
  obtain ⟨ep, he⟩ := PyProof.Rows.sortedAll_at s.heap its ((arrOf st').map (·.2))
  have hlen : (ys.map V.str).length ≤ sizeLine := by
    rw [List.length_map, k2.length_eq]
    rw [List.length_map] at hz
    exact hz
  exact ⟨.ref _, upd H (s.heap.objs.size + 1) (.lst (ys.map V.str)), I.laid (t' := s.toks) (fun _ _ => PyProof.Rows.sortedAll_old) (Nat.le_succ _) ⟨hlen, _, ep, vals_of_strs k1, he⟩, rfl, q _ _ k2 k3 (I.hok.fresh (Nat.le_succ _))⟩
end
end Ev

end
section
/-! Ev 6: built-ins by values. -/
namespace Ev
open PySem PySem.Spec PyProof.Rows L2

/-- a built-in's name and value -/
def bltN : Blt → Str
  | .len => "len" | .abs => "abs" | .divmod => "divmod" | .max2 => "max" | .min2 => "min" | .min3 => "min" | .maxl => "max" | .minl => "min" | .sum => "sum" | .all => "all" | .any => "any"
  | .tuple => "tuple" | .list => "list" | .sorted => "sorted" | .repr => "repr" | .str => "str" | .int => "int" | .bool => "bool" | .set => "set"
def bltV : Blt → Value
  | .len => .builtin "len" | .abs => .builtin "abs" | .divmod => .builtin "divmod" | .max2 => .builtin "max" | .min2 => .builtin "min" | .min3 => .builtin "min" | .maxl => .builtin "max" | .minl => .builtin "min" | .sum => .builtin "sum" | .all => .builtin "all" | .any => .builtin "any"
  | .tuple => .type "tuple" | .list => .type "list" | .sorted => .builtin "sorted" | .repr => .builtin "repr" | .str => .type "str" | .int => .type "int" | .bool => .type "bool" | .set => .type "set"
theorem blt_boot (b : Blt) : bootBuiltins (bltN b) = some (bltV b) := by cases b <;> decide +kernel
abbrev RL := List V → Hp → VK → Prop
abbrev rLenA (K : PySem.W.Frag) : RL := fun xs H Q => ∃ x n, xs = [x] ∧ LenV K x H n ∧ Q (.int n) H
abbrev rNo : RL := fun _ _ _ => False
def rBlt (K : KW) : Blt → RL
  | .len => fun xs H Q => (rLenA K xs H Q ∨ rLenSetO K.w xs H Q) ∨ rLenSetT K.pr K.w xs H Q
  | .min3 => rNuC3 nuMin3
  | .abs => fun xs H Q => ∃ i, xs = [.int i] ∧ Q (.int (if i < 0 then -i else i)) H
  | .divmod => fun xs H Q => ∃ i j, xs = [.int i, .int j] ∧ CDivP i j ∧ ∀ p, H p = none → Q (.ref p) (upd H p (.tup [.int (i / j), .int (i % j)]))
  | .max2 => fun xs H Q => ∃ i j, xs = [.int i, .int j] ∧ Q (.int (if j > i then j else i)) H
  | .min2 => fun xs H Q => ∃ i j, xs = [.int i, .int j] ∧ Q (.int (if j < i then j else i)) H
  | .maxl => rMax K
  | .minl => rMin K
  | .sum => rSum K
  | .all => rAll K
  | .any => rAny K
  | .tuple => fun xs H Q => ∃ p ys, xs = [.ref p] ∧ ((SqL K H p ys ∧ ∀ l, H l = none → Q (.ref l) (upd H l (.tup ys))) ∨ (SqT K H p ys ∧ Q (.ref p) H))
  | .list => fun xs H Q => ∃ p ys, xs = [.ref p] ∧ (SqL K H p ys ∨ SqT K H p ys) ∧ ∀ l, H l = none → Q (.ref l) (upd H l (.lst ys))
  | .sorted => fun xs H Q => ((rSortedI K xs H Q ∨ rSortedPT K xs H Q) ∨ rSortedSet K.w xs H Q) ∨ (rSortedIT K xs H Q ∨ rSortedST K xs H Q)
  | .repr => rShown K
  | .str => fun xs H Q => (∃ i, xs = [.int i] ∧ i.natAbs.log2 < 1920 ∧ Q (.str (toString i)) H) ∨ (∃ a, xs = [.str a] ∧ Q (.str a) H)
  | .int => fun xs H Q => (∃ i, xs = [.int i] ∧ Q (.int i) H) ∨ ∃ k, xs = [.bl k] ∧ Q (.int (if k then 1 else 0)) H
  | .bool => fun xs H Q => ((∃ i, xs = [.int i] ∧ Q (.bl (i != 0)) H) ∨ ∃ k, xs = [.bl k] ∧ Q (.bl k) H) ∨ (∃ a zs, xs = [.ref a] ∧ SqL K H a zs ∧ Q (.bl (!zs.isEmpty)) H)
  | .set => fun xs H Q => rSetOfI K K.w xs H Q ∨ rSetOfT K K.pr K.w xs H Q
theorem blt_rule {X : Cx} (hc : X.calm = true) (hg : X.A.guards = some []) (hu : X.A.units + 65 < cLine) (b : Blt) : CallR X (bltV b) (rBlt ⟨X.K, X.w, X.prog⟩ b) := by
  cases b with
  | len => exact CallR.or (CallR.or call_len cr_lenSetO) cr_lenSetT
  | min3 => exact call_min3Nu hc
  | abs => exact call_abs
  | divmod => exact call_divmodW
  | max2 => exact call_max2 hc
  | min2 => exact call_min2 hc
  | maxl => exact cr_max hc
  | minl => exact cr_min hc
  | sum => exact cr_sum hc
  | all => exact cr_all hc
  | any => exact cr_any hc
  | tuple => exact call_tuple_of
  | list => exact call_list_of
  | sorted => exact CallR.or (CallR.or (CallR.or cr_sortedI cr_sortedPT) (cr_sortedSet hc)) (CallR.or cr_sortedIT cr_sortedST)
  | repr => exact call_shown hg (by omega)
  | str => exact CallR.or call_str_int SkE.call_str_str
  | int => exact call_int1
  | bool => exact CallR.or call_bool1 call_boolL
  | set => exact CallR.or (cr_setOfI hc) (cr_setOfT hc (by omega))

/-! ### plain lists of ints -/
theorem maxL_mem {ns : List Int} {m : Int} (h : maxL ns = some m) : m ∈ ns ∧ ∀ y, y ∈ ns → y ≤ m := by
  cases ns with
  | nil => cases h
  | cons x xs =>
    have h' : xs.foldl max x = m := Option.some.inj h
    clear h
    induction xs generalizing x with
    | nil =>
      have : x = m := h'
      subst this
      exact ⟨List.mem_cons_self, fun y hy => by simp at hy; omega⟩
    | cons z zs ih =>
      obtain ⟨h1, h2⟩ := ih (max x z) h'
      refine ⟨?_, fun y hy => ?_⟩
      · rcases List.mem_cons.mp h1 with e | e
        · rcases Int.le_total x z with hxz | hxz
          · rw [Int.max_eq_right hxz] at e; rw [e]; exact List.mem_cons_of_mem _ List.mem_cons_self
          · rw [Int.max_eq_left hxz] at e; rw [e]; exact List.mem_cons_self
        · exact List.mem_cons_of_mem _ (List.mem_cons_of_mem _ e)
      · have hm := h2 (max x z) List.mem_cons_self
        rcases List.mem_cons.mp hy with e | e
        · have := Int.le_max_left x z
          omega
        · rcases List.mem_cons.mp e with e | e
          · have := Int.le_max_right x z
            omega
          · exact h2 y (List.mem_cons_of_mem _ e)
theorem minL_mem {ns : List Int} {m : Int} (h : minL ns = some m) : m ∈ ns ∧ ∀ y, y ∈ ns → m ≤ y := by
  cases ns with
  | nil => cases h
  | cons x xs =>
    have h' : xs.foldl min x = m := Option.some.inj h
    clear h
    induction xs generalizing x with
    | nil =>
      have : x = m := h'
      subst this
      exact ⟨List.mem_cons_self, fun y hy => by simp at hy; omega⟩
    | cons z zs ih =>
      obtain ⟨h1, h2⟩ := ih (min x z) h'
      refine ⟨?_, fun y hy => ?_⟩
      · rcases List.mem_cons.mp h1 with e | e
        · rcases Int.le_total x z with hxz | hxz
          · rw [Int.min_eq_left hxz] at e; rw [e]; exact List.mem_cons_self
          · rw [Int.min_eq_right hxz] at e; rw [e]; exact List.mem_cons_of_mem _ List.mem_cons_self
        · exact List.mem_cons_of_mem _ (List.mem_cons_of_mem _ e)
      · have hm := h2 (min x z) List.mem_cons_self
        rcases List.mem_cons.mp hy with e | e
        · have := Int.min_le_left x z
          omega
        · rcases List.mem_cons.mp e with e | e
          · have := Int.min_le_right x z
            omega
          · exact h2 y (List.mem_cons_of_mem _ e)
theorem perm_sorted_eq {a b : List Int} (h : a.Perm b) (ha : a.Pairwise (· ≤ ·)) (hb : b.Pairwise (· ≤ ·)) : a = b :=
  h.eq_of_pairwise (fun x y _ _ h1 h2 => Int.le_antisymm h1 h2) ha hb
theorem sortI_perm (xs : List Int) : (sortI xs).Perm xs := List.mergeSort_perm _ _
theorem sortI_sorted (xs : List Int) : (sortI xs).Pairwise (· ≤ ·) := by
  have h := List.pairwise_mergeSort (le := fun a b : Int => decide (a ≤ b)) (fun a b c h1 h2 => by simp at *; omega) (fun a b => by simp; omega) xs
  exact h.imp fun h => by simpa using h
theorem sortI_uniq {xs ys : List Int} (h : ys.Perm xs) (hs : ys.Pairwise (· ≤ ·)) : ys = sortI xs :=
  perm_sorted_eq (h.trans (sortI_perm xs).symm) hs (sortI_sorted xs)
theorem nodup_lt : ∀ {ys : List Int}, ys.Pairwise (· < ·) → ys.Nodup
  | _, h => h.imp fun h => by omega
theorem leP_no {p q : Int × Int} : SrtO.lexB q p = false ↔ leP p q = true := by
  unfold leP
  rw [SrtO.lexB_no, decide_eq_true_eq]
  omega
theorem sortPr_perm (ps : List (Int × Int)) : (sortPr ps).Perm ps := List.mergeSort_perm _ _
theorem sortPr_sorted (ps : List (Int × Int)) : (sortPr ps).Pairwise fun p q => leP p q = true :=
  List.pairwise_mergeSort (le := leP) (fun a b c h1 h2 => by unfold leP at *; simp only [decide_eq_true_eq] at *; omega) (fun a b => by unfold leP; simp only [Bool.or_eq_true, decide_eq_true_eq]; omega) ps
theorem sortPr_uniq {ps qs : List (Int × Int)} (h : qs.Perm ps) (hs : qs.Pairwise fun p q => SrtO.lexB q p = false) : qs = sortPr ps := by
  refine (h.trans (sortPr_perm ps).symm).eq_of_pairwise (le := fun p q => leP p q = true) (fun x y _ _ h1 h2 => ?_) (hs.imp fun h => leP_no.mp h) (sortPr_sorted ps)
  unfold leP at h1 h2
  simp only [decide_eq_true_eq] at h1 h2
  exact Prod.ext (by omega) (by omega)
theorem sortI_set {xs ys : List Int} (nd : xs.Nodup) (hm : ∀ k, k ∈ ys ↔ k ∈ xs) (hs : ys.Pairwise (· < ·)) : ys = sortI xs := by
  refine sortI_uniq ?_ (hs.imp fun h => by omega)
  exact (List.perm_ext_iff_of_nodup (nodup_lt hs) nd).mpr hm

section
variable {K : KW} {XR : Nat → Option P → XK → Hp → Prop} {base : List Nat} {α β ν μ : Type} {Y : XK} {ex ex1 : List Addr} {bt bt1 : Bt} {H H1 : Hp} {st : Store}
variable {R : Hp → List Addr → Bt → ν → α → Prop} {R' : Hp → List Addr → Bt → μ → β → Prop} {Q : V → Hp → Prop}
/-- several values read as they stand -/
abbrev Curs (K : KW) (H : Hp) (ex : List Addr) : List V → List P → Prop := Paired (Cur K H ex)
theorem views_ok (S : SRel K base ex bt st H) {vs : List V} {ds : List D} (r : RpDs K H ex bt vs ds) : views ds st = .bad ∨ ∃ ps, views ds st = .ok ps st ∧ Curs K H ex vs ps := by
  induction r with
  | nil => exact .inr ⟨[], rfl, .nil⟩
  | cons q t ih =>
    rename_i v d vs ds
    have e0 : views (d :: ds) st = ((Ev.view d).bnd fun p => (views ds).bnd fun ps => M.ret (p :: ps)) st := rfl
    rw [e0]
    unfold M.bnd
    rcases view_ok S q with e | ⟨p, e, c⟩
    · rw [e]; exact .inl rfl
    · rw [e]
      rcases ih with e2 | ⟨ps, e2, c2⟩
      · dsimp only; rw [e2]; exact .inl rfl
      · dsimp only; rw [e2]; exact .inr ⟨p :: ps, rfl, .cons c c2⟩
theorem Cont.views {f : List P → M β} {Q : μ → Hp → Prop} (S : SRel K base ex bt st H) {vs : List V} {ds : List D} (r : RpDs K H ex bt vs ds) (h : Cont K XR base Y R' ex bt H ((Ev.views ds).bnd f st) Q) :
    ∃ ps, Curs K H ex vs ps ∧ Cont K XR base Y R' ex bt H (f ps st) Q := by
  unfold M.bnd at h
  rcases views_ok S r with e | ⟨p, e, c⟩
  · rw [e] at h; exact (show False from h).elim
  · rw [e] at h; exact ⟨p, c, h⟩
theorem curs1 {vs : List V} {p : P} (c : Curs K H ex vs [p]) : ∃ v, vs = [v] ∧ Cur K H ex v p := by
  cases c with
  | cons a t => cases t; exact ⟨_, rfl, a⟩
theorem curs2 {vs : List V} {p q : P} (c : Curs K H ex vs [p, q]) : ∃ v u, vs = [v, u] ∧ Cur K H ex v p ∧ Cur K H ex u q := by
  cases c with
  | cons a t =>
    cases t with
    | cons b t => cases t; exact ⟨_, _, rfl, a, b⟩
theorem curs3 {vs : List V} {p q t : P} (c : Curs K H ex vs [p, q, t]) : ∃ v u z, vs = [v, u, z] ∧ Cur K H ex v p ∧ Cur K H ex u q ∧ Cur K H ex z t := by
  cases c with
  | cons a t =>
    cases t with
    | cons b t =>
      cases t with
      | cons d t => cases t; exact ⟨_, _, _, rfl, a, b, d⟩
theorem Rps.prs {K : KW} {H : Hp} {ex : List Addr} : ∀ {ps : List (Int × Int)} {ws : List V} {xs : List P}, Rps K H ex ws xs → toPairs xs = some ps → PrVs K H ws ps := by
  intro ps ws xs
  induction xs generalizing ps ws with
  | nil => intro r e; cases r; cases e; exact .nil
  | cons x xs ih =>
    intro r e
    unfold toPairs at e
    split at e
    · rename_i heq; cases heq
    · rename_i i j rr heq
      cases heq
      simp only [Option.map_eq_some_iff] at e
      obtain ⟨qs, e1, e2⟩ := e
      subst e2
      cases r with
      | cons r t =>
        cases r with
        | tup h r =>
          cases r with
          | cons a b =>
            cases b with
            | cons b d =>
              cases d
              cases a
              cases b
              exact .cons ⟨_, rfl, h⟩ (ih t e1)
    · cases e
theorem _root_.Ev.PrVs.rps {K : KW} {H : Hp} {ex : List Addr} : ∀ {ys : List V} {qs : List (Int × Int)}, PrVs K H ys qs → Rps K H ex ys (qs.map pairP)
  | _, _, .nil => .nil
  | _, _, .cons ⟨t, e, h⟩ r => e ▸ .cons (.tup h (.cons (.int _) (.cons (.int _) .nil))) (PrVs.rps r)
theorem perm_two {α : Type} {a b : α} {ys : List α} (h : ys.Perm [a, b]) : ys = [a, b] ∨ ys = [b, a] := by
  have l := h.length_eq
  match ys, l with
  | [x, y], _ =>
    have hx : x ∈ [a, b] := h.mem_iff.mp List.mem_cons_self
    simp only [List.mem_cons, List.not_mem_nil, or_false] at hx
    rcases hx with rfl | rfl
    · left
      have := (List.perm_cons x).mp h
      rw [List.perm_singleton.mp this]
    · right
      have := (List.perm_cons x).mp (h.trans (List.Perm.swap x a []))
      rw [List.perm_singleton.mp this]
theorem min3_ints (i j k : Int) : nuMin3 (.int i) (.int j) (.int k) = some (.int (if k < (if j < i then j else i) then k else (if j < i then j else i))) := by
  have two : ∀ a b : Int, nuMin2 (.int a) (.int b) = some (.int (if b < a then b else a)) := fun a b => by
    show ((some (decide (b < a))).map fun c => if c = true then V.int b else V.int a) = _
    by_cases h : b < a <;> simp [h]
  unfold nuMin3
  rw [two]
  exact two _ _
theorem cur_shown {v : V} {p : P} (c : Cur K H ex v p) (h : p.hasDict = false) : Dp K H v p := c.dp h
theorem blt_gen {b : Blt} {vs : List V} {ps : List P} {r : P} (S : SRel K base ex bt st H) (c : Curs K H ex vs ps) (er : bltP b ps = some r) (h : Cont K XR base Y (RpD K) ex bt H (M.ret (.p r) st) Q) : rBlt K b vs H Q := by
  unfold bltP at er
  split at er
  · cases er
    obtain ⟨v, rfl, cc⟩ := curs1 c
    obtain ⟨a, ws, rfl, h1, r1⟩ := cc.list
    exact .inl (.inl ⟨_, _, rfl, .inl ⟨ws, h1, rfl⟩, by rw [r1.length]; exact h.val S (.int _)⟩)
  · cases er
    obtain ⟨v, rfl, cc⟩ := curs1 c
    obtain ⟨a, ws, rfl, h1, r1⟩ := cc.tup
    exact .inl (.inl ⟨_, _, rfl, .inr ⟨ws, h1, rfl⟩, by rw [r1.length]; exact h.val S (.int _)⟩)
  · split at er
    · rename_i hl
      cases er
      obtain ⟨v, rfl, cc⟩ := curs1 c
      have ev := cc.str
      subst ev
      exact .inl (.inl ⟨_, _, rfl, ⟨by rw [line_eq]; exact hl, rfl⟩, h.val S (.int _)⟩)
    · cases er
  · cases er
    obtain ⟨v, rfl, cc⟩ := curs1 c
    have ev := cc.int
    subst ev
    exact ⟨_, rfl, h.val S (.int _)⟩
  · split at er
    · rename_i hm
      cases er
      obtain ⟨v, u, rfl, c1, c2⟩ := curs2 c
      have e1 := c1.int
      have e2 := c2.int
      subst e1 e2
      unfold dmOk at hm
      simp only [Bool.and_eq_true, decide_eq_true_eq] at hm
      exact ⟨_, _, rfl, ⟨hm.1, PyProof.noPylong_of_log2 hm.2⟩, h.tup S (.cons (.int _) (.cons (.int _) .nil))⟩
    · cases er
  · cases er
    obtain ⟨v, u, rfl, c1, c2⟩ := curs2 c
    have e1 := c1.int
    have e2 := c2.int
    subst e1 e2
    exact ⟨_, _, rfl, h.val S (.int _)⟩
  · cases er
    obtain ⟨v, u, rfl, c1, c2⟩ := curs2 c
    have e1 := c1.int
    have e2 := c2.int
    subst e1 e2
    exact ⟨_, _, rfl, h.val S (.int _)⟩
  · simp only [Option.bind_eq_some_iff, Option.map_eq_some_iff] at er
    obtain ⟨ns, e1, m, e2, e3⟩ := er
    subst e3
    obtain ⟨v, rfl, cc⟩ := curs1 c
    obtain ⟨a, ws, rfl, h1, r1⟩ := cc.list
    have ew := r1.ints e1
    subst ew
    obtain ⟨m1, m2⟩ := maxL_mem e2
    refine ⟨a, ns, rfl, h1, List.length_pos_of_mem m1, fun m' h3 h4 => ?_⟩
    have : m' = m := Int.le_antisymm (m2 _ h3) (h4 _ m1)
    rw [this]
    exact h.val S (.int _)
  · simp only [Option.bind_eq_some_iff, Option.map_eq_some_iff] at er
    obtain ⟨ns, e1, m, e2, e3⟩ := er
    subst e3
    obtain ⟨v, rfl, cc⟩ := curs1 c
    obtain ⟨a, ws, rfl, h1, r1⟩ := cc.list
    have ew := r1.ints e1
    subst ew
    obtain ⟨m1, m2⟩ := minL_mem e2
    refine ⟨a, ns, rfl, h1, List.length_pos_of_mem m1, fun m' h3 h4 => ?_⟩
    have : m' = m := Int.le_antisymm (h4 _ m1) (m2 _ h3)
    rw [this]
    exact h.val S (.int _)
  · simp only [Option.map_eq_some_iff] at er
    obtain ⟨ns, e1, e3⟩ := er
    subst e3
    obtain ⟨v, rfl, cc⟩ := curs1 c
    obtain ⟨a, ws, rfl, h1, r1⟩ := cc.list
    have ew := r1.ints e1
    subst ew
    exact ⟨a, ns, rfl, h1, h.val S (.int _)⟩
  · simp only [Option.map_eq_some_iff] at er
    obtain ⟨ns, e1, e3⟩ := er
    subst e3
    obtain ⟨v, rfl, cc⟩ := curs1 c
    obtain ⟨a, ws, rfl, h1, r1⟩ := cc.list
    have ew := r1.bools e1
    subst ew
    exact ⟨a, ns, rfl, h1, h.val S (.bl _)⟩
  · simp only [Option.map_eq_some_iff] at er
    obtain ⟨ns, e1, e3⟩ := er
    subst e3
    obtain ⟨v, rfl, cc⟩ := curs1 c
    obtain ⟨a, ws, rfl, h1, r1⟩ := cc.list
    have ew := r1.bools e1
    subst ew
    exact ⟨a, ns, rfl, h1, h.val S (.bl _)⟩
  · cases er
    obtain ⟨v, rfl, cc⟩ := curs1 c
    obtain ⟨a, ws, rfl, h1, r1⟩ := cc.list
    exact ⟨a, ws, rfl, .inl ⟨h1, h.tup S r1⟩⟩
  · cases er
    obtain ⟨v, rfl, cc⟩ := curs1 c
    obtain ⟨a, ws, rfl, h1, r1⟩ := cc.tup
    exact ⟨a, ws, rfl, .inr ⟨h1, h.val S (.tup h1 r1)⟩⟩
  · cases er
    obtain ⟨v, rfl, cc⟩ := curs1 c
    obtain ⟨a, ws, rfl, h1, r1⟩ := cc.list
    exact ⟨a, ws, rfl, .inl h1, h.lst S r1⟩
  · cases er
    obtain ⟨v, rfl, cc⟩ := curs1 c
    obtain ⟨a, ws, rfl, h1, r1⟩ := cc.tup
    exact ⟨a, ws, rfl, .inr h1, h.lst S r1⟩
  · obtain ⟨v, rfl, cc⟩ := curs1 c
    obtain ⟨a, ws, rfl, h1, r1⟩ := cc.list
    unfold sortL at er
    split at er
    · rename_i ns e1
      cases er
      have ew := r1.ints e1
      subst ew
      refine .inl (.inl (.inl ⟨a, ns, rfl, h1, fun ms p hp hs hn => ?_⟩))
      have em := sortI_uniq hp hs
      subst em
      exact h.lst S (Rps.of_ints _) p hn
    · simp only [Option.map_eq_some_iff] at er
      obtain ⟨ps, e1, e3⟩ := er
      subst e3
      refine .inl (.inl (.inr ⟨a, ws, ps, rfl, h1, r1.prs e1, fun ys qs d hy hp hs hn => ?_⟩))
      have em := sortPr_uniq hp hs
      subst em
      exact h.lst S hy.rps d hn
  · obtain ⟨v, rfl, cc⟩ := curs1 c
    obtain ⟨a, ws, rfl, h1, r1⟩ := cc.tup
    unfold sortT at er
    split at er
    · rename_i ns e1
      cases er
      have ew := r1.ints e1
      subst ew
      refine .inr (.inl ⟨a, ns, rfl, h1, fun ms p hp hs hn => ?_⟩)
      have em := sortI_uniq hp hs
      subst em
      exact h.lst S (Rps.of_ints _) p hn
    · split at er
      · rename_i a1 b1 _
        have ew : ws = [a1, b1].map V.str := by
          cases r1 with
          | cons r1 t =>
            cases t with
            | cons r2 t =>
              cases t
              cases r1
              cases r2
              rfl
        subst ew
        refine .inr (.inr ⟨a, [a1, b1], rfl, h1, fun ys p hp hs hn => ?_⟩)
        have two : ys = [a1, b1] ∨ ys = [b1, a1] := perm_two hp
        split at er
        · rename_i hm
          cases er
          simp only [Bool.and_eq_true, Bool.not_eq_true'] at hm
          rcases two with rfl | rfl
          · exact h.lst S (.cons (.str _) (.cons (.str _) .nil)) p hn
          · rw [hs] at hm; exact absurd hm.2 (by decide)
        · split at er
          · rename_i hm
            cases er
            simp only [Bool.and_eq_true, Bool.not_eq_true'] at hm
            rcases two with rfl | rfl
            · rw [hs] at hm; exact absurd hm.2 (by decide)
            · exact h.lst S (.cons (.str _) (.cons (.str _) .nil)) p hn
          · cases er
      · cases er
  · cases er
    obtain ⟨v, u, t, rfl, c1, c2, c3⟩ := curs3 c
    have e1 := c1.int
    have e2 := c2.int
    have e3 := c3.int
    subst e1 e2 e3
    refine ⟨_, _, _, _, rfl, ?_, h.val S (.int _)⟩
    exact min3_ints _ _ _
  · split at er
    · rename_i hm
      cases er
      simp only [Bool.and_eq_true, decide_eq_true_eq, Bool.not_eq_true'] at hm
      obtain ⟨⟨⟨h1, h2⟩, h3⟩, h4⟩ := hm
      obtain ⟨v, rfl, cc⟩ := curs1 c
      exact ⟨v, _, rfl, cc.dp h2, h1, h2, by rw [line_eq]; exact h3, h4, h.val S (.str _)⟩
    · cases er
  · split at er
    · rename_i hm
      cases er
      obtain ⟨v, rfl, cc⟩ := curs1 c
      have ev := cc.int
      subst ev
      exact .inl ⟨_, rfl, of_decide_eq_true hm, h.val S (.str _)⟩
    · cases er
  · cases er
    obtain ⟨v, rfl, cc⟩ := curs1 c
    have ev := cc.str
    subst ev
    exact .inr ⟨_, rfl, h.val S (.str _)⟩
  · cases er
    obtain ⟨v, rfl, cc⟩ := curs1 c
    have ev := cc.int
    subst ev
    exact .inl ⟨_, rfl, h.val S (.int _)⟩
  · cases er
    obtain ⟨v, rfl, cc⟩ := curs1 c
    have ev := cc.bool
    subst ev
    exact .inr ⟨_, rfl, h.val S (.int _)⟩
  · cases er
    obtain ⟨v, rfl, cc⟩ := curs1 c
    have ev := cc.int
    subst ev
    exact .inl (.inl ⟨_, rfl, h.val S (.bl _)⟩)
  · cases er
    obtain ⟨v, rfl, cc⟩ := curs1 c
    have ev := cc.bool
    subst ev
    exact .inl (.inr ⟨_, rfl, h.val S (.bl _)⟩)
  · cases er
    obtain ⟨v, rfl, cc⟩ := curs1 c
    obtain ⟨a, ws, rfl, h1, r1⟩ := cc.list
    exact .inr ⟨a, ws, rfl, h1, by rw [isEmpty_rps r1]; exact h.val S (.bl _)⟩
  · cases er
end
end Ev

end
section
/-! Ev 7: the store written; methods by values. -/
namespace Ev
open PySem PySem.Spec PyProof.Rows L2

section
variable {K : KW} {XR : Nat → Option P → XK → Hp → Prop} {base : List Nat} {α β ν μ : Type} {Y : XK} {ex ex1 : List Addr} {bt bt1 : Bt} {H H1 : Hp} {st : Store}
variable {R : Hp → List Addr → Bt → ν → α → Prop} {R' : Hp → List Addr → Bt → μ → β → Prop} {Q : V → Hp → Prop}
theorem set_core {ys : List P} {ws : List V} {a : Addr} (S : SRel K base ex bt st H) (r1 : Rps K H ex ws ys) (hL : SqL K H a ws ∨ SqT K H a ws) (h2 : Cont K XR base Y (RpD K) ex bt H (setG ys st) Q) : rSetOfI K K.w [V.ref a] H Q := by
  cases e1 : toInts ys with
  | none =>
    have e : setG ys st = .bad := by unfold setG; rw [e1]; rfl
    rw [e] at h2
    exact (show False from h2).elim
  | some ns =>
    by_cases hl : ns.length < 4000
    · have e : setG ys st = M.ret (.iset (onceI ns)) st := by unfold setG; rw [e1]; dsimp only; rw [if_pos hl]
      rw [e] at h2
      have ew := r1.ints e1
      subst ew
      refine ⟨a, ns, rfl, hL, hl, fun p hn => h2.made S hn ⟨p, _, rfl, S.fresh hn, upd_same, fun k => ?_, once_nodup ns⟩⟩
      rw [decide_eq_true_eq, once_mem]
    · have e : setG ys st = .bad := by unfold setG; rw [e1]; dsimp only; rw [if_neg hl]; rfl
      rw [e] at h2
      exact (show False from h2).elim
theorem tups_of : ∀ {ys : List P} {ws : List V} {ks : List (List Int)}, Rps K H ex ws ys → toTups ys = some ks → ∃ L : List (Addr × List Int), ws = L.map (fun p => V.ref p.1) ∧ L.map (·.2) = ks ∧ ∀ p ∈ L, SqT K H p.1 (p.2.map V.int)
  | _, _, ks, .nil, e => by
    simp only [toTups, Option.some.injEq] at e
    subst e
    exact ⟨[], rfl, rfl, fun _ h => by cases h⟩
  | _, _, ks, .cons r t, e => by
    cases r with
    | @tup a vs xs hT rs =>
      simp only [toTups] at e
      split at e
      · rename_i ns q e1 e2
        cases e
        obtain ⟨L, h1, h2, h3⟩ := tups_of t e2
        have ev := rs.ints e1
        subst ev
        refine ⟨(a, ns) :: L, by rw [h1]; rfl, by rw [← h2]; rfl, fun p hp => ?_⟩
        rcases List.mem_cons.mp hp with rfl | hp
        · exact hT
        · exact h3 p hp
      · cases e
    | _ => simp [toTups] at e
theorem set_tups {ys : List P} {ws : List V} {a : Addr} (S : SRel K base ex bt st H) (r1 : Rps K H ex ws ys) (hL : SqL K H a ws) (h2 : Cont K XR base Y (RpD K) ex bt H (setTup ys st) Q) : rSetOfT K K.pr K.w [V.ref a] H Q := by
  cases e1 : toTups ys with
  | none =>
    have e : setTup ys st = .bad := by unfold setTup; rw [e1]; rfl
    rw [e] at h2
    exact (show False from h2).elim
  | some ks =>
    by_cases hl : ks.length < 64
    · have e : setTup ys st = M.ret (.tset (onceT ks).length) st := by unfold setTup; rw [e1]; dsimp only; rw [if_pos hl]
      rw [e] at h2
      obtain ⟨L, h3, h4, h5⟩ := tups_of r1 e1
      subst h3
      refine ⟨a, L, rfl, hL, h5, by rw [← h4, List.length_map] at hl; exact hl, fun p M hn hs ha => h2.made S hn ⟨p, M, rfl, S.fresh hn, upd_same, fun nd => ?_⟩⟩
      have pm : (M.map (·.2)).Perm (onceT ks) := (List.perm_ext_iff_of_nodup nd (onceT_nodup ks)).mpr fun k => by
        rw [onceT_mem, ← h4]
        constructor
        · intro hk
          obtain ⟨x, hx, rfl⟩ := List.mem_map.mp hk
          exact List.mem_map.mpr ⟨x, hs x hx, rfl⟩
        · intro hk
          obtain ⟨x, hx, rfl⟩ := List.mem_map.mp hk
          exact ha x hx
      have := pm.length_eq
      rw [List.length_map] at this
      exact this
    · have e : setTup ys st = .bad := by unfold setTup; rw [e1]; dsimp only; rw [if_neg hl]; rfl
      rw [e] at h2
      exact (show False from h2).elim
theorem blt_ok {b : Blt} {vs : List V} {ds : List D} (S : SRel K base ex bt st H) (r : RpDs K H ex bt vs ds) (h : Cont K XR base Y (RpD K) ex bt H (bltD b ds st) Q) : rBlt K b vs H Q := by
  unfold bltD at h
  split at h
  · cases r with
    | cons q t =>
      cases t
      obtain ⟨p, cx, _, h1⟩ := Cont.view S q h
      cases p with
      | list ys =>
        obtain ⟨a, ws, rfl, hL, r1⟩ := cx.list
        have h1' : Cont K XR base Y (RpD K) ex bt H ((if isTup1 ys then setTup ys else setG ys) st) Q := h1
        split at h1'
        · exact .inr (set_tups S r1 hL h1')
        · exact .inl (set_core S r1 (.inl hL) h1')
      | tuple ys =>
        obtain ⟨a, ws, rfl, hL, r1⟩ := cx.tup
        exact .inl (set_core S r1 (.inr hL) h1)
      | _ => exact (show False from h1).elim
  · exact (show False from h).elim
  · cases r with
    | cons q t =>
      cases t
      obtain ⟨a, T, rfl, hx, hH, hS, nd⟩ := q
      exact .inl (.inr ⟨a, T, _, rfl, hH, h.val S (.int _)⟩)
  · cases r with
    | cons q t =>
      cases t
      obtain ⟨a, L, rfl, hx, hH, hn⟩ := q
      exact .inr ⟨a, L, _, rfl, hH, hn, h.val S (.int _)⟩
  · split at h
    · rename_i ns hl
      cases r with
      | cons q t =>
        cases t
        obtain ⟨a, T, rfl, hx, hH, hS, nd⟩ := q
        refine .inl (.inr ⟨a, T, ns.length, rfl, hH, hl, fun ms p hs hm hk hn => ?_⟩)
        have e := sortI_set (xs := ns) (ys := ms) nd (fun k => (hm k).trans (hS k)) hs
        subst e
        exact h.lst S (Rps.of_ints _) p hn
    · exact (show False from h).elim
  · obtain ⟨ps, c, h1⟩ := Cont.views S r h
    obtain ⟨q, er, h2⟩ := Cont.opt h1
    exact blt_gen S c er h2
/-! ### the store -/
theorem Ext.write {i : Nat} {a : Addr} {ws : List V} (hi : bt[i]? = some (some a)) : Ext ex bt H ex bt (upd H a (.lst ws)) := by
  refine ⟨fun b o h n => ?_, fun b o h => ?_, fun _ h => .inl h, fun _ h => .inl h, fun _ _ h => .inl h, fun _ _ h => .inl h⟩
  · have ne : b ≠ a := fun e => n (by rw [e]; exact List.mem_of_getElem? hi)
    rw [upd_ne ne]; exact h
  · by_cases e : b = a
    · subst e; exact ⟨_, upd_same⟩
    · exact ⟨o, by rw [upd_ne e]; exact h⟩
theorem SRel.write {i : Nat} {a : Addr} {ws : List V} {xs ds : List D} (S : SRel K base ex bt st H) (hi : bt[i]? = some (some a)) (hx : st[i]? = some (.lst xs)) (r : RpDs K H ex bt ws ds)
    (wf : ∀ b, b ∈ base → ∀ j, D.loc j ∈ ds → i < b → j < b) : SRel K base ex bt (st.set i (.lst ds)) (upd H a (.lst ws)) := by
  have E : Ext ex bt H ex bt (upd H a (.lst ws)) := Ext.write hi
  have hl : i < st.length := (List.getElem?_eq_some_iff.mp hx).1
  refine ⟨by rw [List.length_set]; exact S.len, by rw [List.length_set]; exact S.low, S.live, S.inj, fun b h => ?_, fun b h => ?_, fun j ys h => ?_, fun j h => ?_, fun b0 hb0 j ys h => ?_⟩
  · obtain ⟨o, h1⟩ := S.exH b h
    exact E.dom b o h1
  · by_cases e : b = a
    · subst e; exact ⟨ws, upd_same⟩
    · obtain ⟨vs, h1⟩ := S.isl b h
      exact ⟨vs, by rw [upd_ne e]; exact h1⟩
  · by_cases e : i = j
    · subst e
      rw [List.getElem?_set_self hl] at h
      cases h
      exact ⟨a, ws, hi, upd_same, RpDs.ext S E r⟩
    · rw [List.getElem?_set_ne e] at h
      obtain ⟨b, vs, h1, h2, h3⟩ := S.obj j ys h
      have ne : b ≠ a := fun q => e (S.inj i j a hi (q ▸ h1))
      exact ⟨b, vs, h1, by rw [upd_ne ne]; exact h2, RpDs.ext S E h3⟩
  · by_cases e : i = j
    · subst e
      rw [List.getElem?_set_self hl] at h
      cases h
    · rw [List.getElem?_set_ne e] at h
      exact S.dead j h
  · by_cases e : i = j
    · subst e
      rw [List.getElem?_set_self hl] at h
      cases h
      exact wf b0 hb0
    · rw [List.getElem?_set_ne e] at h
      exact S.wf b0 hb0 j ys h
/-- a list of the store is taken for good -/
theorem SRel.kill {i : Nat} {a : Addr} {xs : List D} (S : SRel K base ex bt st H) (hi : bt[i]? = some (some a)) (hx : st[i]? = some (.lst xs)) :
    Ext ex bt H (ex.filter fun b => decide (b ≠ a)) (bt.set i none) H ∧ SRel K base (ex.filter fun b => decide (b ≠ a)) (bt.set i none) (st.set i .dead) H := by
  have hl : i < st.length := (List.getElem?_eq_some_iff.mp hx).1
  have hb : i < bt.length := (List.getElem?_eq_some_iff.mp hi).1
  have old : ∀ (j : Nat) (b : Addr), (bt.set i none)[j]? = some (some b) → i ≠ j ∧ bt[j]? = some (some b) := fun j b h => by
    by_cases e : i = j
    · subst e
      rw [List.getElem?_set_self hb] at h
      cases h
    · rw [List.getElem?_set_ne e] at h
      exact ⟨e, h⟩
  have E : Ext ex bt H (ex.filter fun b => decide (b ≠ a)) (bt.set i none) H := by
    refine ⟨fun b o h _ => h, fun b o h => ⟨o, h⟩, fun b h => .inl (List.mem_filter.mp h).1, fun b h => ?_, fun j x h => ?_, fun j b h => .inl (old j b h).2⟩
    · by_cases e : b = a
      · exact .inr (by rw [e]; exact List.mem_of_getElem? hi)
      · exact .inl (List.mem_filter.mpr ⟨h, decide_eq_true e⟩)
    · by_cases e : i = j
      · subst e
        exact .inr (List.getElem?_set_self hb)
      · rw [List.getElem?_set_ne e]
        exact .inl h
  refine ⟨E, by rw [List.length_set, List.length_set]; exact S.len, by rw [List.length_set]; exact S.low, fun b h => ?_, fun j k b h1 h2 => S.inj j k b (old j b h1).2 (old k b h2).2, fun b h => S.exH b (List.mem_filter.mp h).1, fun b h => ?_, fun j ys h => ?_, fun j h => ?_, fun b0 hb0 j ys h => ?_⟩
  · obtain ⟨j, hj⟩ := List.mem_iff_getElem?.mp h
    obtain ⟨e, h1⟩ := old j b hj
    refine List.mem_filter.mpr ⟨S.live b (List.mem_of_getElem? h1), decide_eq_true fun q => e (S.inj i j a hi (q ▸ h1))⟩
  · obtain ⟨j, hj⟩ := List.mem_iff_getElem?.mp h
    exact S.isl b (List.mem_of_getElem? (old j b hj).2)
  · by_cases e : i = j
    · subst e
      rw [List.getElem?_set_self hl] at h
      cases h
    · rw [List.getElem?_set_ne e] at h
      obtain ⟨b, vs, h1, h2, h3⟩ := S.obj j ys h
      exact ⟨b, vs, by rw [List.getElem?_set_ne e]; exact h1, h2, RpDs.ext S E h3⟩
  · by_cases e : i = j
    · subst e
      exact List.getElem?_set_self hb
    · rw [List.getElem?_set_ne e] at h ⊢
      exact S.dead j h
  · by_cases e : i = j
    · subst e
      rw [List.getElem?_set_self hl] at h
      cases h
    · rw [List.getElem?_set_ne e] at h
      exact S.wf b0 hb0 j ys h
theorem take_loc (i : Nat) (st : Store) : take (.loc i) st = (match st[i]? with
    | some (.lst xs) => (match pures xs with
      | some ps => .ok (.list ps) (st.set i .dead)
      | none => .bad)
    | _ => .bad) := rfl
theorem Cont.take {f : P → M β} {Q : μ → Hp → Prop} {v : V} {d : D} (S : SRel K base ex bt st H) (r : RpD K H ex bt v d) (h : Cont K XR base Y R' ex bt H ((Ev.take d).bnd f st) Q) :
    ∃ p ex1 bt1 st1, Ext ex bt H ex1 bt1 H ∧ SRel K base ex1 bt1 st1 H ∧ Rp K H ex1 v p ∧ Cont K XR base Y R' ex1 bt1 H (f p st1) Q := by
  unfold M.bnd at h
  cases d with
  | p d => exact ⟨d, ex, bt, st, .refl, S, r, h⟩
  | loc i =>
    rw [take_loc] at h
    split at h
    · rename_i s1 e1
      split at e1
      · rename_i xs hx
        split at e1
        · rename_i ps hp
          cases e1
          obtain ⟨a, vs, h1, h2, h3⟩ := S.obj i xs hx
          obtain ⟨E, S1⟩ := S.kill h1 hx
          refine ⟨_, _, _, _, E, S1, ?_, Cont.later S E h⟩
          rw [r.2 a h1]
          exact .lst h2 (fun q => (of_decide_eq_true (List.mem_filter.mp q).2) rfl) (pures_loc hp (RpDs.ext S E h3))
        · cases e1
      · cases e1
    · rename_i e1
      split at e1
      · split at e1 <;> cases e1
      · cases e1
    · exact h.elim
  | scr ns => exact (show False from h).elim
  | iset ns => exact (show False from h).elim
  | tset ns => exact (show False from h).elim
  | fn f => exact (show False from h).elim
theorem Cont.takes : ∀ {ds : List D} {vs : List V} {f : List P → M β} {Q : μ → Hp → Prop} {ex : List Addr} {bt : Bt} {st : Store}, SRel K base ex bt st H → RpDs K H ex bt vs ds → Cont K XR base Y R' ex bt H ((Ev.takes ds).bnd f st) Q →
    ∃ ps ex1 bt1 st1, Ext ex bt H ex1 bt1 H ∧ SRel K base ex1 bt1 st1 H ∧ Rps K H ex1 vs ps ∧ Cont K XR base Y R' ex1 bt1 H (f ps st1) Q
  | [], _, f, Q, ex, bt, st, S, .nil, h => ⟨[], ex, bt, st, .refl, S, .nil, h⟩
  | d :: ds, _, f, Q, ex, bt, st, S, .cons r t, h => by
    have h' : Cont K XR base Y R' ex bt H ((Ev.take d).bnd (fun p => (Ev.takes ds).bnd fun ps => f (p :: ps)) st) Q := by
      have e : ((Ev.takes (d :: ds)).bnd f) st = ((Ev.take d).bnd (fun p => (Ev.takes ds).bnd fun ps => f (p :: ps))) st := by
        show (((Ev.take d).bnd fun p => (Ev.takes ds).bnd fun ps => M.ret (p :: ps)).bnd f) st = _
        unfold M.bnd
        cases Ev.take d st with
        | ok p s1 => dsimp only; cases Ev.takes ds s1 <;> rfl
        | exn c x s1 => rfl
        | bad => rfl
      rw [← e]; exact h
    obtain ⟨p, ex1, bt1, st1, E1, S1, r1, h1⟩ := Cont.take S r h'
    obtain ⟨ps, ex2, bt2, st2, E2, S2, r2, h2⟩ := Cont.takes S1 (RpDs.ext S E1 t) h1
    exact ⟨p :: ps, ex2, bt2, st2, E1.trans S E2, S2, .cons (Rp.ext S1 E2 r1) r2, h2⟩
theorem Cont.lstAt {f : Nat × List D → M β} {Q : μ → Hp → Prop} {v : V} {d : D} (S : SRel K base ex bt st H) (r : RpD K H ex bt v d) (h : Cont K XR base Y R' ex bt H ((Ev.lstAt d).bnd f st) Q) :
    ∃ i xs a vs, d = .loc i ∧ st[i]? = some (.lst xs) ∧ bt[i]? = some (some a) ∧ v = .ref a ∧ H a = some (.lst vs) ∧ RpDs K H ex bt vs xs ∧ Cont K XR base Y R' ex bt H (f (i, xs) st) Q := by
  unfold M.bnd at h
  cases d with
  | loc i =>
    have e0 : Ev.lstAt (.loc i) st = (match st[i]? with
      | some (.lst xs) => .ok (i, xs) st
      | _ => .bad) := rfl
    rw [e0] at h
    cases e : st[i]? with
    | none => rw [e] at h; exact (show False from h).elim
    | some o =>
      cases o with
      | lst xs =>
        rw [e] at h
        obtain ⟨a, vs, h1, h2, h3⟩ := S.obj i xs e
        exact ⟨i, xs, a, vs, rfl, e, h1, r.2 a h1, h2, h3, h⟩
      | dead => rw [e] at h; exact (show False from h).elim
  | p d => exact (show False from h).elim
  | scr ns => exact (show False from h).elim
  | iset ns => exact (show False from h).elim
  | tset ns => exact (show False from h).elim
  | fn f => exact (show False from h).elim
/-- a list of the store written, a value handed back -/
theorem Cont.put {i : Nat} {a : Addr} {ws : List V} {xs ds : List D} {d : D} {v : V} (S : SRel K base ex bt st H) (hi : bt[i]? = some (some a)) (hx : st[i]? = some (.lst xs)) (r : RpDs K H ex bt ws ds)
    (wf : ∀ b, b ∈ base → ∀ j, D.loc j ∈ ds → i < b → j < b) (rv : RpD K H ex bt v d) (h : Cont K XR base Y (RpD K) ex bt H ((putAt i ds).bnd (fun _ => M.ret d) st) Q) : Q v (upd H a (.lst ws)) :=
  h v _ ex bt (Ext.write hi) (S.write hi hx r wf) (RpD.ext S (Ext.write hi) rv)
theorem rpds_append {vs ws : List V} {ds es : List D} (h : RpDs K H ex bt vs ds) (h' : RpDs K H ex bt ws es) : RpDs K H ex bt (vs ++ ws) (ds ++ es) := by
  induction h with
  | nil => exact h'
  | cons r t ih => exact .cons r ih
theorem rpds_of : ∀ {vs : List V} {ps : List P}, Rps K H ex vs ps → RpDs K H ex bt vs (ps.map D.p)
  | _, _, .nil => .nil
  | _, _, .cons r t => .cons r (rpds_of t)
theorem rpds_len {vs : List V} {ds : List D} (h : RpDs K H ex bt vs ds) : vs.length = ds.length := Paired.length h
theorem rpds_dropLast : ∀ {vs : List V} {ds : List D}, RpDs K H ex bt vs ds → RpDs K H ex bt vs.dropLast ds.dropLast
  | _, _, .nil => .nil
  | _, _, .cons _ .nil => .nil
  | _, _, .cons r (.cons q t) => .cons r (rpds_dropLast (.cons q t))
theorem rpds_erase : ∀ {vs : List V} {ds : List D} (n : Nat), RpDs K H ex bt vs ds → RpDs K H ex bt (vs.eraseIdx n) (ds.eraseIdx n)
  | _, _, _, .nil => .nil
  | _, _, 0, .cons _ t => t
  | _, _, n + 1, .cons r t => .cons r (rpds_erase n t)
theorem mem_map_p {ps : List P} {j : Nat} : ¬ D.loc j ∈ ps.map D.p := fun h => by
  obtain ⟨p, _, e⟩ := List.mem_map.mp h
  cases e
/-! ### methods -/
def mthT : Mth → String
  | .append | .extend | .pop | .popAt | .index | .remove | .count | .insert => "list"
  | _ => "str"
def mthN : Mth → Str
  | .append => "append" | .extend => "extend" | .pop => "pop" | .popAt => "pop" | .index => "index" | .remove => "remove" | .count => "count" | .insert => "insert"
  | .join => "join" | .partition => "partition" | .split => "split" | .startswith => "startswith" | .upper => "upper"
def mthI : Mth → String
  | .append => "list.append" | .extend => "list.extend" | .pop => "list.pop" | .popAt => "list.pop" | .index => "list.index" | .remove => "list.remove" | .count => "list.count" | .insert => "list.insert"
  | .join => "str.join" | .partition => "str.partition" | .split => "str.split" | .startswith => "str.startswith" | .upper => "str.upper"
abbrev RM := V → List V → Hp → VK → Prop
abbrev rJoin (K : PySem.W.Frag) : RM := fun x xs H Q => ∃ a p, ∃ ys : List Str, x = .str a ∧ xs = [.ref p] ∧ (SqL K H p (ys.map V.str) ∨ SqT K H p (ys.map V.str)) ∧ (ys.map (·.length)).sum + ys.length * a.length ≤ 16777216 ∧ Q (.str (Txt.join a ys)) H
abbrev rPart : RM := fun x xs H Q => ∃ a b, x = .str a ∧ xs = [.str b] ∧ (b.length == 0) = false ∧ a.length ≤ sizeLine ∧ ∀ p, H p = none → Q (.ref p) (upd H p (.tup [.str (Txt.partition a b).1, .str (Txt.partition a b).2.1, .str (Txt.partition a b).2.2]))
abbrev rSpl : RM := fun x xs H Q => ∃ a b, x = .str a ∧ xs = [.str b] ∧ (b.length == 0) = false ∧ a.length + 2 ≤ sizeLine ∧ rNewStrs (Txt.split a b) H Q
abbrev rStarts : RM := fun x xs H Q => ∃ a b, x = .str a ∧ xs = [.str b] ∧ Q (.bl (Txt.startswith a b)) H
def rMth (K : KW) : Mth → RM
  | .append => rAppend
  | .extend => rExtend
  | .pop => rPop
  | .popAt => rPopAt
  | .index => rIndexD K
  | .remove => rRemI
  | .join => rJoin K
  | .partition => rPart
  | .split => rSpl
  | .startswith => rStarts
  | _ => fun _ _ _ _ => False
def mthHas : Mth → Bool
  | .count | .insert | .upper => false
  | _ => true
theorem mth_rule {X : Cx} (hu : X.A.units + 65 < cLine) (m : Mth) : MtR X (mthI m) (rMth ⟨X.K, X.w, X.prog⟩ m) := by
  cases m with
  | append => exact mt_append
  | extend => exact mt_extend
  | pop => exact mt_pop
  | popAt => exact mt_popAt
  | index => exact mt_indexD hu
  | remove => exact mt_remove
  | join => exact mt_join
  | partition => exact mt_partition
  | split => exact mt_split
  | startswith => exact mt_startswith
  | count => exact fun _ _ _ _ _ _ _ _ _ _ _ _ h => h.elim
  | insert => exact fun _ _ _ _ _ _ _ _ _ _ _ _ h => h.elim
  | upper => exact fun _ _ _ _ _ _ _ _ _ _ _ _ h => h.elim
theorem findE_ok {d : P} : ∀ {ds : List P} {n k : Nat}, findE d ds n = some k → n ≤ k ∧ (∃ z, ds[k - n]? = some z ∧ PyData.eqv z d = true) ∧ ∀ (m : Nat) (z : P), m < k - n → ds[m]? = some z → PyData.eqv z d = false
  | [], n, k, h => by cases h
  | x :: xs, n, k, h => by
    unfold findE at h
    split at h
    · rename_i e
      cases h
      refine ⟨Nat.le_refl _, ⟨x, by rw [Nat.sub_self]; rfl, e⟩, fun m z hm => ?_⟩
      rw [Nat.sub_self] at hm
      exact absurd hm (Nat.not_lt_zero _)
    · rename_i e
      obtain ⟨h1, ⟨z, h2, h3⟩, h4⟩ := findE_ok h
      refine ⟨by omega, ⟨z, ?_, h3⟩, fun m z hm hz => ?_⟩
      · have : k - n = (k - (n + 1)) + 1 := by omega
        rw [this, List.getElem?_cons_succ]
        exact h2
      · cases m with
        | zero =>
          have : x = z := by simpa using hz
          subst this
          simpa using e
        | succ m => exact h4 m z (by omega) (by simpa using hz)
theorem pureInts {xs : List D} {ns : List Int} (h : (pures xs).bind toInts = some ns) : ∃ ps, pures xs = some ps ∧ toInts ps = some ns := by
  simpa [Option.bind_eq_some_iff] using h
theorem first_at {k : Int} : ∀ {ns : List Int}, k ∈ ns → ∃ j, ns[j]? = some k ∧ (∀ m : Nat, m < j → ns[m]? ≠ some k) ∧ ns.eraseIdx j = ns.erase k
  | n :: ns, h => by
    by_cases e : n = k
    · subst e
      exact ⟨0, rfl, fun m hm => absurd hm (Nat.not_lt_zero _), by simp⟩
    · have h' : k ∈ ns := by
        rcases List.mem_cons.mp h with q | q
        · exact absurd q.symm e
        · exact q
      obtain ⟨j, h1, h2, h3⟩ := first_at h'
      refine ⟨j + 1, by simpa using h1, fun m hm => ?_, ?_⟩
      · cases m with
        | zero => simpa using e
        | succ m => simpa using h2 m (by omega)
      · rw [List.eraseIdx_cons_succ, h3, List.erase_cons_tail (by simpa using e)]
theorem mth_ok {m : Mth} {x : V} {vs : List V} {o : D} {ds : List D} {b0 : Nat} (hb0 : ∀ b, b ∈ base → b ≤ b0) (S : SRel K base ex bt st H) (rx : RpD K H ex bt x o) (rv : RpDs K H ex bt vs ds)
    (h : Cont K XR base Y (RpD K) ex bt H (mthD b0 m o ds st) Q) : rMth K m x vs H Q := by
  unfold mthD at h
  split at h
  · -- append
    rename_i y
    obtain ⟨i, ys, a, ws, rfl, hs, hb, rfl, hH, hr, h1⟩ := Cont.lstAt S rx h
    cases rv with
    | cons q t =>
      cases t
      rename_i u
      dsimp only at h1
      split at h1
      · rename_i hm
        rw [Bool.and_eq_true] at hm
        have hlen := rpds_len hr
        refine ⟨a, ws, u, rfl, rfl, hH, by rw [line_eq, hlen]; exact of_decide_eq_true hm.2, Cont.put (d := .p .none) S hb hs (rpds_append hr (.cons q .nil)) (fun b hb2 j hj hlt => ?_) .non h1⟩
        rcases List.mem_append.mp hj with hj | hj
        · exact S.wf b hb2 i ys hs j hj hlt
        · have e : D.loc j = y := by simpa using hj
          subst e
          have := of_decide_eq_true (show decide (b0 ≤ i) = true from hm.1)
          have := hb0 b hb2
          omega
      · exact (show False from h1).elim
  · -- extend
    rename_i zs
    obtain ⟨i, ys, a, ws, rfl, hs, hb, rfl, hH, hr, h1⟩ := Cont.lstAt S rx h
    cases rv with
    | cons q t =>
      cases t
      dsimp only at h1
      split at h1
      · rename_i hm
        cases (show Rp K H ex _ (.list zs) from q) with
        | lst hH2 hx2 hr2 =>
          rename_i b us
          refine ⟨a, b, ws, us, rfl, rfl, hH, hH2, by rw [line_eq, rpds_len hr, hr2.length]; exact of_decide_eq_true hm, Cont.put (d := .p .none) S hb hs (rpds_append hr (rpds_of hr2)) (fun b hb2 j hj hlt => ?_) .non h1⟩
          rcases List.mem_append.mp hj with hj | hj
          · exact S.wf b hb2 i ys hs j hj hlt
          · exact absurd hj mem_map_p
      · exact (show False from h1).elim
  · -- pop
    obtain ⟨i, ys, a, ws, rfl, hs, hb, rfl, hH, hr, h1⟩ := Cont.lstAt S rx h
    cases rv
    dsimp only at h1
    cases hy : ys[ys.length - 1]? with
    | none => rw [hy] at h1; exact (show False from h1).elim
    | some y =>
      rw [hy] at h1
      obtain ⟨u, e1, r1⟩ := rpds_get hr hy
      refine ⟨a, ws, u, rfl, rfl, hH, by rw [rpds_len hr]; exact e1, Cont.put S hb hs (rpds_dropLast hr) (fun b hb2 j hj hlt => ?_) r1 h1⟩
      exact S.wf b hb2 i ys hs j (List.dropLast_subset _ hj) hlt
  · -- pop at
    rename_i k
    obtain ⟨i, ys, a, ws, rfl, hs, hb, rfl, hH, hr, h1⟩ := Cont.lstAt S rx h
    cases rv with
    | cons q t =>
      cases t
      dsimp only at h1
      split at h1
      · rename_i hm
        rw [Bool.and_eq_true] at hm
        have k0 := of_decide_eq_true hm.1
        have k1 := of_decide_eq_true hm.2
        cases hy : ys[k.toNat]? with
        | none => rw [hy] at h1; exact (show False from h1).elim
        | some y =>
          rw [hy] at h1
          obtain ⟨u, e1, r1⟩ := rpds_get hr hy
          have hlt := (List.getElem?_eq_some_iff.mp hy).1
          have ew := rpds_len hr
          have eu : _ = V.int k := (Cur.p (show Rp K H ex _ (.int k) from q)).int
          subst eu
          refine ⟨a, ws, k, k.toNat, u, rfl, rfl, hH, by omega, by omega, PySem.StrLaws.seqIndex_nonneg k0 (by omega), e1, Cont.put S hb hs (rpds_erase _ hr) (fun b hb2 j hj hlt => ?_) r1 h1⟩
          exact S.wf b hb2 i ys hs j (List.mem_of_mem_eraseIdx hj) hlt
      · exact (show False from h1).elim
  · -- remove
    rename_i k
    obtain ⟨i, ys, a, ws, rfl, hs, hb, rfl, hH, hr, h1⟩ := Cont.lstAt S rx h
    cases rv with
    | cons q t =>
      cases t
      dsimp only at h1
      cases hn : (pures ys).bind toInts with
      | none => rw [hn] at h1; exact (show False from h1).elim
      | some ns =>
        rw [hn] at h1
        dsimp only at h1
        obtain ⟨ps, e1, e2⟩ := pureInts hn
        split at h1
        · rename_i hm
          have hk := of_decide_eq_true hm
          have ew := (pures_loc e1 hr).ints e2
          subst ew
          obtain ⟨j, f1, f2, f3⟩ := first_at hk
          have eu : _ = V.int k := (Cur.p (show Rp K H ex _ (.int k) from q)).int
          subst eu
          refine ⟨a, ns, k, j, rfl, rfl, hH, f1, f2, ?_⟩
          rw [f3]
          have em : (ns.erase k).map (fun n => D.p (.int n)) = ((ns.erase k).map PyData.int).map D.p := by rw [List.map_map]; rfl
          rw [em] at h1
          exact Cont.put (d := .p .none) S hb hs (rpds_of (Rps.of_ints _)) (fun _ _ j hj => absurd hj mem_map_p) .non h1
        · exact (show False from h1).elim
  · -- index
    rename_i d
    obtain ⟨p, c, -, h1⟩ := Cont.view S rx h
    cases rv with
    | cons q t =>
      cases t
      split at h1
      · rename_i ys
        split at h1
        · rename_i hm
          rw [Bool.and_eq_true] at hm
          cases hk : findE d ys 0 with
          | none => rw [hk] at h1; exact (show False from h1).elim
          | some k =>
            rw [hk] at h1
            obtain ⟨-, ⟨z, g1, g2⟩, g3⟩ := findE_ok hk
            obtain ⟨a, us, ea, hS2, r2⟩ := c.list
            subst ea
            exact ⟨a, _, d, ys, k, z, rfl, rfl, c.dpS hm.1, (Cur.p (show Rp K H ex _ d from q)).dpS hm.2, hm.1, hm.2, g1, g2, g3, h1.val (d := .p (.int k)) S (.int _)⟩
        · exact (show False from h1).elim
      · exact (show False from h1).elim
  · -- join
    rename_i y
    cases rv with
    | cons q t =>
      cases t
      obtain ⟨p, c, -, h1⟩ := Cont.view S q h
      split at h1
      · rename_i a ys
        cases ht : toStrs ys with
        | none => rw [ht] at h1; exact (show False from h1).elim
        | some ts =>
          rw [ht] at h1
          dsimp only at h1
          split at h1
          · rename_i hm
            obtain ⟨b, us, ea, hS2, r2⟩ := c.list
            subst ea
            have eu := r2.strs ht
            subst eu
            have ex0 : x = .str a := (Cur.p (show Rp K H ex x (.str a) from rx)).str
            exact ⟨a, b, ts, ex0, rfl, .inl hS2, of_decide_eq_true hm, h1.val (d := .p (.str _)) S (.str _)⟩
          · exact (show False from h1).elim
      · exact (show False from h1).elim
  · -- partition
    rename_i b
    cases rv with
    | cons q t =>
      cases t
      split at h
      · rename_i a
        split at h
        · rename_i hm
          rw [Bool.and_eq_true] at hm
          have e1 : x = .str a := (Cur.p (show Rp K H ex x (.str a) from rx)).str
          have e2 : _ = V.str b := (Cur.p (show Rp K H ex _ (.str b) from q)).str
          subst e2
          exact ⟨a, b, e1, rfl, by simpa using hm.1, by rw [line_eq]; exact of_decide_eq_true hm.2, h.tup S (.cons (.str _) (.cons (.str _) (.cons (.str _) .nil)))⟩
        · exact (show False from h).elim
      · exact (show False from h).elim
  · -- split
    rename_i b
    cases rv with
    | cons q t =>
      cases t
      split at h
      · rename_i a
        split at h
        · rename_i hm
          rw [Bool.and_eq_true] at hm
          have e1 : x = .str a := (Cur.p (show Rp K H ex x (.str a) from rx)).str
          have e2 : _ = V.str b := (Cur.p (show Rp K H ex _ (.str b) from q)).str
          subst e2
          have rs : ∀ l : List Str, Rps K H ex (l.map V.str) (l.map PyData.str) := fun l => by
            induction l with
            | nil => exact .nil
            | cons z zs ih => exact .cons (.str z) ih
          exact ⟨a, b, e1, rfl, by simpa using hm.1, by rw [line_eq]; exact of_decide_eq_true hm.2, h.lst S (rs _)⟩
        · exact (show False from h).elim
      · exact (show False from h).elim
  · -- startswith
    rename_i b
    cases rv with
    | cons q t =>
      cases t
      split at h
      · rename_i a
        have e1 : x = .str a := (Cur.p (show Rp K H ex x (.str a) from rx)).str
        have e2 : _ = V.str b := (Cur.p (show Rp K H ex _ (.str b) from q)).str
        subst e2
        exact ⟨a, b, e1, rfl, h.val (d := .p (.bool _)) S (.bl _)⟩
      · exact (show False from h).elim
  · exact (show False from h).elim
/-- what stands ahead of a method's name -/
theorem Cont.mthChk {m : Mth} {f : Unit → M β} {Q : μ → Hp → Prop} {v : V} {d : D} (S : SRel K base ex bt st H) (r : RpD K H ex bt v d) (h : Cont K XR base Y R' ex bt H ((Ev.mthChk m d).bnd f st) Q) :
    tyV K (mthT m) v H ∧ Cont K XR base Y R' ex bt H (f () st) Q := by
  have tl : isListM m = true → mthT m = "list" := by cases m <;> first | (intro _; rfl) | (intro z; cases z)
  have ts : isListM m = false → mthT m = "str" := by cases m <;> first | (intro _; rfl) | (intro z; cases z)
  unfold M.bnd at h
  cases d with
  | loc i =>
    have e0 : Ev.mthChk m (.loc i) st = (if isListM m then (match st[i]? with
      | some (.lst _) => .ok () st
      | _ => .bad) else .bad) := rfl
    rw [e0] at h
    split at h
    · rename_i a s1 e1
      split at e1
      · rename_i hm
        split at e1
        · rename_i xs hx
          cases e1
          obtain ⟨b, vs, h1, h2, h3⟩ := S.obj i xs hx
          refine ⟨?_, h⟩
          rw [tl hm, r.2 b h1]
          exact .inl ⟨rfl, vs, SqL.of h2⟩
        · cases e1
      · cases e1
    · rename_i e1
      split at e1
      · split at e1 <;> cases e1
      · cases e1
    · exact (show False from h).elim
  | p d =>
    cases d with
    | list ys =>
      have e0 : Ev.mthChk m (.p (.list ys)) st = (if isListM m then M.ret () else M.bad) st := rfl
      rw [e0] at h
      cases hm : isListM m with
      | true =>
        rw [hm] at h
        cases (show Rp K H ex v (.list ys) from r) with
        | lst h1 _ _ => exact ⟨by rw [tl hm]; exact .inl ⟨rfl, _, SqL.of h1⟩, h⟩
      | false => rw [hm] at h; exact (show False from h).elim
    | str z =>
      have e0 : Ev.mthChk m (.p (.str z)) st = (if isListM m then M.bad else M.ret ()) st := rfl
      rw [e0] at h
      cases hm : isListM m with
      | true => rw [hm] at h; exact (show False from h).elim
      | false =>
        rw [hm] at h
        cases (show Rp K H ex v (.str z) from r)
        exact ⟨by rw [ts hm]; rfl, h⟩
    | _ => exact (show False from h).elim
  | scr ns => exact (show False from h).elim
  | iset ns => exact (show False from h).elim
  | tset ns => exact (show False from h).elim
  | fn f => exact (show False from h).elim
end
end Ev

end
section
/-! Ev 8: calls of the text's own defs, nothing being shown around them. -/
namespace Ev
open PySem PySem.Spec PyProof.Rows L2

/-- a def keeps a promise wherever there is room and no text of a container is being made -/
structure FnG (P : Program) (w : World) (K : PySem.W.Frag) (mg : Str → Option Value) (base : Heap) (CX : CXT) (k : Nat) (f : Addr) (fd : FuncData) (ps : List Str) (sp : Sp) : Prop where
  len : ∀ vs H Q E, sp vs H Q E → vs.length = ps.length
  run : ∀ (A : Around) (outer : List PySem.Env) (s : Shared) (H : Hp) (args : Args) (us : List Value) (vs : List V) (Q : VK) (E : XK), Room k A → A.guards = some [] → Env0 P w K mg base A outer s H →
    BindsTo s fd args (ps.zip us) → Vals vs us → sp vs H Q E → codeAny (model P w) A (.call (.ref f) args) (CR CX outer P w H s Q E) s
/-- keywords: the values of the positions and of the keywords in a row, put in the parameters' order -/
def KBg (K : PySem.W.Frag) (fd : FuncData) (ps ks : List Str) (n : Nat) (pm : List Nat) : Prop :=
  ∀ (s : Shared) (us : List Value), K.In s.heap → us.length = n + ks.length → BindsTo s fd ⟨us.take n, ks.zip (us.drop n)⟩ (ps.zip (pm.filterMap fun i => us[i]?))
theorem vals_pick {vs : List V} {us : List Value} (r : Vals vs us) : ∀ pm : List Nat, Vals (pm.filterMap fun i => vs[i]?) (pm.filterMap fun i => us[i]?)
  | [] => .nil
  | i :: pm => by
    rw [List.filterMap_cons, List.filterMap_cons]
    cases e : vs[i]? with
    | none => rw [Vals.none_of r e]; exact vals_pick r pm
    | some v =>
      obtain ⟨u, e2, q⟩ := r.get e
      rw [e2]
      exact .cons q (vals_pick r pm)
section
variable {X : Cx} {k : Nat} {f : Addr} {fd : FuncData} {ps ks : List Str} {sp : Sp} {x : Str} {p pos : Pos} {e : Expr} {es : List Expr} {kws : List Keyword} {t tk : TA} {W : WX}
theorem run_fnG {pins : List (Addr × Obj)} {σ : St} {H : Hp} {s : Shared} {Q : VK} {args : Args} {us : List Value} {vs : List V} (F : FnG X.prog X.w X.K X.mg X.base (L2.CX X.prog X.w) k f fd ps sp) (hr : Room k X.A) (hg : X.A.guards = some []) (tk : Takes X W)
    (hb : us.length = ps.length → BindsTo s fd args (ps.zip us)) (I : Inv X pins σ H s) (r : Vals vs us) (h : sp vs H Q (WE W σ)) : wpAny (model X.prog X.w) X.A (call (.ref f) args.pos args.kw) (EP X pins σ Q) X.xe s := by
  have hl : us.length = ps.length := by rw [← r.length]; exact F.len _ _ _ _ h
  refine wpAny_call (codeAny_mono (F.run X.A X.stack s H args us vs Q (WE W σ) hr hg I.env0 (hb hl) r h) fun r s' hq => ?_)
  cases r with
  | error e => exact passAt tk σ pins H s e s' I hq
  | ok fl =>
    cases fl with
    | ret u => exact I.after hq
    | next => exact False.elim hq
    | brk => exact False.elim hq
    | cont => exact False.elim hq
def tCallG (sp : Sp) (W : WX) (t : TA) : TE := fun σ H Q => t σ H fun vs H1 => sp vs H1 Q (WE W σ)
theorem pe_callG (F : FnG X.prog X.w X.K X.mg X.base (L2.CX X.prog X.w) k f fd ps sp) (hr : Room k X.A) (hg : X.A.guards = some []) (tk : Takes X W) (hgl : Gl X x) (hm : X.mg x = some (.ref f)) (hk : PySem.W.keepIn X.K (.ref f) = true) (hb : Binds X.K fd ps [])
    (ha : PA X (e :: es) t) (hdb : (x == ("__debug__" : Str)) = false) (he : starEach (e :: es) X.env = (false, eval e X.env) :: starEach es X.env) (hpl : (backTo pos (starEach es X.env)).any (·.1) = false) :
    PE X (.Call (.Name x p) (e :: es) [] pos) (tCallG sp W t) := by
  refine ⟨fun pins s σ H Q I h => wpAny_Call_Name_kw (ld_glob I hgl hm ?_ hdb)⟩
  refine PySem.W.callWith_K (h₀ := X.base) I.ok.mod.kin hk (thn (ha.run pos pins s σ H _ I h) fun us s1 ⟨vs, H1, I1, r, q⟩ => ⟨I1.kIn, ?_⟩) he hpl
  refine run_fnG (args := ⟨us, []⟩) F hr hg tk (fun hl => ?_) I1 r q
  have b := hb s1 us I1.kIn (by rw [List.append_nil]; exact hl)
  rw [List.append_nil] at b
  exact b
theorem pe_callG0 (F : FnG X.prog X.w X.K X.mg X.base (L2.CX X.prog X.w) k f fd ps sp) (hr : Room k X.A) (hg : X.A.guards = some []) (tk : Takes X W) (hgl : Gl X x) (hm : X.mg x = some (.ref f)) (hk : PySem.W.keepIn X.K (.ref f) = true) (hb : Binds X.K fd ps [])
    (hdb : (x == ("__debug__" : Str)) = false) : PE X (.Call (.Name x p) [] [] pos) (tCallG sp W tNil) := by
  refine ⟨fun pins s σ H Q I h => wpAny_Call_Name_kw (ld_glob I hgl hm ?_ hdb)⟩
  refine PySem.W.callWith_K0 I.kIn hk (run_fnG (us := []) (args := ⟨[], []⟩) F hr hg tk (fun hl => ?_) I .nil h)
  exact hb s [] I.kIn hl
theorem filterMap_len_le {α β : Type} (g : α → Option β) : ∀ l : List α, (l.filterMap g).length ≤ l.length := fun l => List.length_filterMap_le g l
def tCallGK (sp : Sp) (W : WX) (pm : List Nat) (t tk : TA) : TE := fun σ H Q => t σ H fun vs H1 => tk σ H1 fun zs H2 => zs.length = 0 + zs.length ∧ sp (pm.filterMap fun i => (vs ++ zs)[i]?) H2 Q (WE W σ)
theorem pe_callGK {n : Nat} {pm : List Nat} (F : FnG X.prog X.w X.K X.mg X.base (L2.CX X.prog X.w) k f fd ps sp) (hr : Room k X.A) (hg : X.A.guards = some []) (tk' : Takes X W) (hgl : Gl X x) (hm : X.mg x = some (.ref f)) (hk : PySem.W.keepIn X.K (.ref f) = true)
    (hb : KBg X.K fd ps ks n pm) (hn : es.length + 1 = n) (ha : PA X (e :: es) t) (hkw : PK X kws tk) (hall : (backToKw pos (keywordEach kws X.env)).all (·.1.isSome) = true) (hks : (backToKw pos (keywordEach kws X.env)).filterMap (·.1) = ks)
    (hlen : kws.length = ks.length) (hal : ∀ σ H Q, t σ H Q → t σ H fun vs H' => vs.length = n ∧ Q vs H') (hkl : ∀ σ H Q, tk σ H Q → tk σ H fun vs H' => vs.length = ks.length ∧ Q vs H')
    (hdb : (x == ("__debug__" : Str)) = false) (he : starEach (e :: es) X.env = (false, eval e X.env) :: starEach es X.env) (hpl : ((backTo pos (starEach (e :: es) X.env)).any (·.1) || (backToKw pos (keywordEach kws X.env)).any (·.1.isNone)) = false) :
    PE X (.Call (.Name x p) (e :: es) kws pos) (tCallGK sp W pm t tk) := by
  refine ⟨fun pins s σ H Q I h => wpAny_Call_Name_kw (ld_glob I hgl hm ?_ hdb)⟩
  refine PySem.W.callWith_KW (h₀ := X.base) I.ok.mod.kin hk hall (thn (ha.run pos pins s σ H _ I (hal _ _ _ h)) fun us s1 ⟨vs, H1, I1, r, l1, q⟩ => ?_) hpl he
  refine thn (hkw.run pos pins s1 σ H1 _ I1 (hkl _ _ _ q)) fun ws s2 ⟨zs, H2, I2, rz, l2, _, q2⟩ => ⟨I2.kIn, ?_⟩
  rw [hks]
  have ru : us.length = n := by rw [← r.length]; exact l1
  have rw' : ws.length = ks.length := by rw [← rz.length]; exact l2
  refine run_fnG (args := ⟨us, ks.zip ws⟩) F hr hg tk' (fun hl => ?_) I2 (vals_pick (r.append rz) pm) q2
  have b := hb s2 (us ++ ws) I2.kIn (by rw [List.length_append, ru, rw'])
  rw [List.take_left' ru, List.drop_left' ru] at b
  exact b
theorem pe_callGK0 {pm : List Nat} (F : FnG X.prog X.w X.K X.mg X.base (L2.CX X.prog X.w) k f fd ps sp) (hr : Room k X.A) (hg : X.A.guards = some []) (tk' : Takes X W) (hgl : Gl X x) (hm : X.mg x = some (.ref f)) (hk : PySem.W.keepIn X.K (.ref f) = true)
    (hb : KBg X.K fd ps ks 0 pm) (hkw : PK X kws tk) (hall : (backToKw pos (keywordEach kws X.env)).all (·.1.isSome) = true) (hks : (backToKw pos (keywordEach kws X.env)).filterMap (·.1) = ks)
    (hkl : ∀ σ H Q, tk σ H Q → tk σ H fun vs H' => vs.length = ks.length ∧ Q vs H')
    (hdb : (x == ("__debug__" : Str)) = false) (hpl : ((backTo pos (starEach [] X.env)).any (·.1) || (backToKw pos (keywordEach kws X.env)).any (·.1.isNone)) = false) :
    PE X (.Call (.Name x p) [] kws pos) (tCallGK sp W pm tNil tk) := by
  refine ⟨fun pins s σ H Q I h => wpAny_Call_Name_kw (ld_glob I hgl hm ?_ hdb)⟩
  have h' : tk σ H fun zs H2 => zs.length = 0 + zs.length ∧ sp (pm.filterMap fun i => ([] ++ zs)[i]?) H2 Q (WE W σ) := h
  refine PySem.W.callWith_KW0 (h₀ := X.base) I.ok.mod.kin hk hall ?_ hpl
  refine thn (hkw.run pos pins s σ H _ I (hkl _ _ _ h')) fun ws s2 ⟨zs, H2, I2, rz, l2, _, q2⟩ => ⟨I2.kIn, ?_⟩
  rw [hks]
  have rw' : ws.length = ks.length := by rw [← rz.length]; exact l2
  rw [List.nil_append] at q2
  refine run_fnG (args := ⟨[], ks.zip ws⟩) F hr hg tk' (fun hl => ?_) I2 (vals_pick rz pm) q2
  have b := hb s2 ws I2.kIn (by rw [rw']; omega)
  rw [List.take_zero, List.drop_zero] at b
  exact b
end
/-- a def's promise from its body's reading -/
theorem fnG_of {P : Program} {w : World} {K : PySem.W.Frag} {mg : Str → Option Value} {base : Heap} {k : Nat} {f : Addr} {name qual : Str} {params : Arguments} {body : List Stmt} {scope : Scope} {dV kV doc pm cdv ct oc : Value} {an od : Option Addr}
    {osl : Array (Option Value)} {N ps : List Str} {sp : Sp} (lk : K.lookup f = some ⟨oc, od, .func (PySem.W.fnOf name qual params body scope dV kV doc pm an cdv ct), osl⟩) (hcd : PySem.W.codeIn K cdv qual = true) (S : FnScope N ps scope)
    (len : ∀ vs H Q E, sp vs H Q E → vs.length = ps.length)
    (hbody : ∀ (A : Around) (outer : List PySem.Env) (s : Shared) (H : Hp) (vs : List V) (Q : VK) (E : XK), Room k (A.deeper (envOfC qual scope s.heap.objs.size f cdv)) → (A.deeper (envOfC qual scope s.heap.objs.size f cdv)).guards = some [] → sp vs H Q E →
      ∃ t, PSs (cxOf (L2.CX P w) P w K mg base N qual scope f cdv A outer s H E) body t ∧ t { nx := fun _ H' => Q .non H', rt := Q } (start N vs) H) :
    FnG P w K mg base (L2.CX P w) (k + 1) f (PySem.W.fnOf name qual params body scope dV kV doc pm an cdv ct) ps sp := by
  refine ⟨len, fun A outer s H args us vs Q E hr hg e0 hb r hsp => ?_⟩
  have hl := len _ _ _ _ hsp
  have KX : K.In s.heap := e0.mod.kin.keeps fun b o e => (e0.bs b o e).1
  have nl : s.heap.NoLimit := e0.mod.nolimit.keeps fun b o e => (e0.bs b o e).1
  refine codeAny_call_function hr.depth (KX _ _ lk) rfl S.co S.gen rfl (PySem.W.codeRec_of KX hcd) (hb _ _ _ _ ?_)
  refine wpAny_newFunctionEnv_cells S.kind (fun ⟨n, v⟩ hy => ?_) fun env he s1 x => ?_
  · rcases S.par n (List.of_mem_zip hy).1 with q | q
    · exact .inl q
    · exact .inr ⟨q, PySem.W.cellsFrom_some _ _ _ (.inl q)⟩
  · subst he
    refine ⟨nl.keeps x.toInCall.keep, codeAny_func ?_⟩
    obtain ⟨t, ht, hq⟩ := hbody A outer s H vs Q E (hr.deeper _) hg hsp
    have I : Inv (cxOf (L2.CX P w) P w K mg base N qual scope f cdv A outer s H E) [] (start N vs) H s1 := inv_start S hr.hd e0 hl r x
    refine wpAny_mono (ht.run [] s1 (start N vs) H _ I hq) (fun fl s' hs => ?_) fun e s' hs => hs
    cases fl with
    | ret u =>
      obtain ⟨v, σ', H', J, rv, q⟩ := hs
      exact ⟨v, H', J.os, J.bare, J.base, J.hok, rv, q⟩
    | next =>
      obtain ⟨σ', H', J, q⟩ := hs
      exact ⟨V.non, H', J.os, J.bare, J.base, J.hok, rfl, q⟩
    | brk =>
      obtain ⟨_, _, _, q⟩ := hs
      exact False.elim q
    | cont =>
      obtain ⟨_, _, _, q⟩ := hs
      exact False.elim q
end Ev

end
section
/-! Ev 9: the expressions of the text and their evaluation. -/
namespace Ev
open PySem PySem.Spec PyProof.Rows L2

abbrev kw (X : Cx) : KW := ⟨X.K, X.w, X.prog⟩
section
variable {X : Cx} {XR : Nat → Option P → XK → Hp → Prop} {bs : List Nat} {W : WX} {a b c e : Expr} {es : List Expr} {pos : Pos} {ma mb mc : Env → M D} {ms : Env → M (List D)}
/-- the reading of an expression in X -/
abbrev rE (X : Cx) (XR : Nat → Option P → XK → Hp → Prop) (bs : List Nat) (W : WX) (m : Env → M D) : TE := rdE (kw X) XR bs W m
abbrev rA (X : Cx) (XR : Nat → Option P → XK → Hp → Prop) (bs : List Nat) (W : WX) (m : Env → M (List D)) : TA := rdA (kw X) XR bs W m
abbrev rT (X : Cx) (XR : Nat → Option P → XK → Hp → Prop) (bs : List Nat) (W : WX) (m : Env → M Bool) : TT := rdT (kw X) XR bs W m

theorem snd_var {i : Nat} {x : Str} (hN : X.N[i]? = some x) (hv : Vis X.env.scope x) (hd : (x == ("__debug__" : Str)) = false) (hc : (x == ("__classdict__" : Str)) = false) :
    PE X (.Name x pos) (rE X XR bs W fun σ => match σ[i]? with
      | some (some d) => M.ret d
      | _ => M.bad) := by
  refine (pe_var hN hv hd hc).imp fun σ H Q ⟨ex, bt, st, env, S, V, C⟩ => ?_
  cases e : env[i]? with
  | none => simp only [e] at C; exact (show False from C).elim
  | some o =>
    cases o with
    | none => simp only [e] at C; exact (show False from C).elim
    | some d =>
      simp only [e] at C
      obtain ⟨v, h1, h2⟩ := V.get i d e
      exact ⟨v, h1, C.val S h2⟩
theorem snd_lit {e : Expr} {v : V} {d : P} (h : PE X e (tC v)) (r : ∀ H ex, Rp (kw X) H ex v d) : PE X e (rE X XR bs W fun _ => M.ret (.p d)) :=
  h.imp fun _ H _ ⟨ex, _, _, _, S, _, C⟩ => C.val (d := .p d) S (r H ex)
theorem snd_neg (ha : PE X a (rE X XR bs W ma)) : PE X (.UnaryOp .USub a pos) (rE X XR bs W fun σ => (ma σ).bnd fun x => match x with
    | .p (.int i) => M.ret (.p (.int (-i)))
    | _ => M.bad) := by
  refine (pe_un un_neg ha).imp fun σ H Q ⟨ex, bt, st, env, S, V, C⟩ => ⟨ex, bt, st, env, S, V, (Cont.bnd S C).mono fun x H1 ⟨d, ex1, bt1, st1, E1, S1, R1, C1⟩ => ?_⟩
  split at C1
  · rename_i i
    exact ⟨i, (Cur.p (show Rp (kw X) H1 ex1 x (.int i) from R1)).int, C1.val (d := .p (.int (-i))) S1 (.int _)⟩
  · exact (show False from C1).elim
theorem snd_not (ha : PE X a (rE X XR bs W ma)) : PE X (.UnaryOp .Not a pos) (rE X XR bs W fun σ => (ma σ).bnd fun x => (truD x).bnd fun t => M.ret (.p (.bool (!t)))) := by
  refine (pe_notT ha).imp fun σ H Q ⟨ex, bt, st, env, S, V, C⟩ => ⟨ex, bt, st, env, S, V, (Cont.bnd S C).mono fun x H1 ⟨d, ex1, bt1, st1, E1, S1, R1, C1⟩ => ?_⟩
  obtain ⟨k, t, C2⟩ := Cont.tru S1 R1 C1
  exact ⟨k, t, C2.val (d := .p (.bool (!k))) S1 (.bl _)⟩
theorem snd_bin (o : Bop) (ha : PE X a (rE X XR bs W ma)) (hb : PE X b (rE X XR bs W mb)) : PE X (.BinOp a (bopOf o) b pos) (rE X XR bs W fun σ => (ma σ).bnd fun x => (mb σ).bnd fun y => binD o x y) := by
  refine (pe_op (op_rBin o) ha hb).imp fun σ H Q ⟨ex, bt, st, env, S, V, C⟩ => ⟨ex, bt, st, env, S, V, (Cont.bnd S C).mono fun x H1 ⟨d, ex1, bt1, st1, E1, S1, R1, C1⟩ => ?_⟩
  refine ⟨ex1, bt1, st1, env, S1, V.ext S E1, (Cont.bnd S1 C1).mono fun y H2 ⟨d2, ex2, bt2, st2, E2, S2, R2, C2⟩ => ?_⟩
  exact bin_ok S2 (RpD.ext S1 E2 R1) R2 C2
theorem snd_cmp (o : Cop) (hu : X.A.units + 65 < cLine) (ha : PE X a (rE X XR bs W ma)) (hb : PE X b (rE X XR bs W mb)) (hm : behindInMarks (copOf o) b = false) :
    PE X (.Compare a [copOf o] [b] pos) (rE X XR bs W fun σ => (ma σ).bnd fun x => (mb σ).bnd fun y => cmpD o x y) := by
  refine (pe_cmpR (op_rCmp hu o) ha hb hm).imp fun σ H Q ⟨ex, bt, st, env, S, V, C⟩ => ⟨ex, bt, st, env, S, V, (Cont.bnd S C).mono fun x H1 ⟨d, ex1, bt1, st1, E1, S1, R1, C1⟩ => ?_⟩
  refine ⟨ex1, bt1, st1, env, S1, V.ext S E1, (Cont.bnd S1 C1).mono fun y H2 ⟨d2, ex2, bt2, st2, E2, S2, R2, C2⟩ => ?_⟩
  exact cmp_ok S2 (RpD.ext S1 E2 R1) R2 C2
/-- what a comparison gives is a bool -/
theorem cmpD_bool {o : Cop} {x y : D} {s s' : Store} {d : D} (h : cmpD o x y s = .ok d s') : ∃ r, d = .p (.bool r) := by
  unfold cmpD M.bnd at h
  cases e1 : view x s with
  | ok p s1 =>
    rw [e1] at h
    dsimp only at h
    cases e2 : view y s1 with
    | ok q s2 =>
      rw [e2] at h
      dsimp only at h
      cases e3 : cmpP o p q with
      | none => rw [e3] at h; cases h
      | some r => rw [e3] at h; cases h; exact ⟨r, rfl⟩
    | exn c v s => rw [e2] at h; cases h
    | bad => rw [e2] at h; cases h
  | exn c v s => rw [e1] at h; cases h
  | bad => rw [e1] at h; cases h
theorem truD_bool (r : Bool) : truD (.p (.bool r)) = M.ret r := rfl
/-- a comparison, then its truth -/
theorem Cont.cmpT {K : KW} {base : List Nat} {Y : XK} {ex : List Addr} {bt : Bt} {H : Hp} {st : Store} {o : Cop} {x y : D} {Q : Bool → Hp → Prop}
    (h : Cont K XR base Y (fun _ _ _ (v : Bool) b => v = b) ex bt H (((cmpD o x y).bnd truD) st) Q) : Cont K XR base Y (RpD K) ex bt H (cmpD o x y st) fun z H' => ∃ k, z = .bl k ∧ Q k H' := by
  unfold M.bnd at h
  cases e : cmpD o x y st with
  | ok d s' =>
    rw [e] at h
    obtain ⟨r, rfl⟩ := cmpD_bool e
    intro v H' ex' bt' E S R
    exact ⟨r, (Cur.p (show Rp K H' ex' v (.bool r) from R)).bool, h r H' ex' bt' E S rfl⟩
  | exn c v s => rw [e] at h; exact h
  | bad => rw [e] at h; exact h
theorem bnd_assoc {α β γ : Type} (m : M α) (f : α → M β) (g : β → M γ) : (m.bnd f).bnd g = m.bnd fun x => (f x).bnd g := by
  funext s
  unfold M.bnd
  cases m s <;> rfl
theorem sndT_cmp (o : Cop) (hu : X.A.units + 65 < cLine) (ha : PE X a (rE X XR bs W ma)) (hb : PE X b (rE X XR bs W mb)) (hm : behindInMarks (copOf o) b = false) :
    PT X (.Compare a [copOf o] [b] pos) (rT X XR bs W fun σ => ((ma σ).bnd fun x => (mb σ).bnd fun y => cmpD o x y).bnd truD) := by
  refine (pt_cmpR (op_rCmp hu o) ha hb hm).imp fun σ H Q ⟨ex, bt, st, env, S, V, C⟩ => ?_
  dsimp only at C
  rw [bnd_assoc] at C
  refine ⟨ex, bt, st, env, S, V, (Cont.bnd S C).mono fun x H1 ⟨d, ex1, bt1, st1, E1, S1, R1, C1⟩ => ?_⟩
  rw [bnd_assoc] at C1
  refine ⟨ex1, bt1, st1, env, S1, V.ext S E1, (Cont.bnd S1 C1).mono fun y H2 ⟨d2, ex2, bt2, st2, E2, S2, R2, C2⟩ => ?_⟩
  exact cmp_ok S2 (RpD.ext S1 E2 R1) R2 (Cont.cmpT C2)
/-- a chain of two -/
abbrev chainM (o o' : Cop) (ma mb mc : Env → M D) (σ : Env) : M D := (ma σ).bnd fun x => (mb σ).bnd fun y => (cmpD o x y).bnd fun r => match r with
    | .p (.bool true) => (mc σ).bnd fun z => cmpD o' y z
    | .p (.bool false) => M.ret (.p (.bool false))
    | _ => M.bad
theorem Cont.chain1 {K : KW} {base : List Nat} {Y : XK} {ex : List Addr} {bt : Bt} {H : Hp} {st : Store} {o : Cop} {x y : D} {u v : V} {f : M D} {Q : V → Hp → Prop} (S : SRel K base ex bt st H) (rx : RpD K H ex bt u x) (ry : RpD K H ex bt v y)
    (h : Cont K XR base Y (RpD K) ex bt H (((cmpD o x y).bnd fun r => match r with
      | .p (.bool true) => f
      | .p (.bool false) => M.ret (.p (.bool false))
      | _ => M.bad) st) Q) :
    rCmp K o u v H fun z H3 => ∃ k, z = .bl k ∧ (if k = true then ∃ ex1 bt1 st1, Ext ex bt H ex1 bt1 H3 ∧ SRel K base ex1 bt1 st1 H3 ∧ Cont K XR base Y (RpD K) ex1 bt1 H3 (f st1) Q else Q (.bl false) H3) := by
  refine cmp_ok (XR := XR) (Y := Y) S rx ry ?_
  unfold M.bnd at h
  cases e : cmpD o x y st with
  | ok d s' =>
    rw [e] at h
    obtain ⟨r, rfl⟩ := cmpD_bool e
    intro w H' ex' bt' E S' R'
    refine ⟨r, (Cur.p (show Rp K H' ex' w (.bool r) from R')).bool, ?_⟩
    cases r with
    | true => exact ⟨ex', bt', s', E, S', Cont.later S E h⟩
    | false => exact h (.bl false) H' ex' bt' E S' (.bl false)
  | exn c w s => rw [e] at h; exact h
  | bad => rw [e] at h; exact h
theorem chain_rd (o o' : Cop) {σ : L2.St} {H : Hp} {Q : VK} (h : rE X XR bs W (chainM o o' ma mb mc) σ H Q) : tChain (rCmp (kw X) o) (rCmp (kw X) o') (rE X XR bs W ma) (rE X XR bs W mb) (rE X XR bs W mc) σ H Q := by
  obtain ⟨ex, bt, st, env, S, V, C⟩ := h
  refine ⟨ex, bt, st, env, S, V, (Cont.bnd S C).mono fun x H1 ⟨d, ex1, bt1, st1, E1, S1, R1, C1⟩ => ?_⟩
  refine ⟨ex1, bt1, st1, env, S1, V.ext S E1, (Cont.bnd S1 C1).mono fun y H2 ⟨d2, ex2, bt2, st2, E2, S2, R2, C2⟩ => ?_⟩
  have V2 := (V.ext S E1).ext S1 E2
  have q := Cont.chain1 S2 (RpD.ext S1 E2 R1) R2 C2
  have im : ∀ {Q1 Q2 : VK}, (∀ v H, Q1 v H → Q2 v H) → rCmp (kw X) o x y H2 Q1 → rCmp (kw X) o x y H2 Q2 := fun {Q1 Q2} i h => by
    cases o with
    | eq =>
      rcases h with ⟨d, e, h1, h2, h3, h4, h5⟩ | ⟨d, e, xs, h1, h2, h3, h4, h5⟩
      · exact .inl ⟨d, e, h1, h2, h3, h4, i _ _ h5⟩
      · exact .inr ⟨d, e, xs, h1, h2, h3, h4, i _ _ h5⟩
    | ne =>
      rcases h with ⟨d, e, h1, h2, h3, h4, h5⟩ | ⟨d, e, xs, h1, h2, h3, h4, h5⟩
      · exact .inl ⟨d, e, h1, h2, h3, h4, i _ _ h5⟩
      · exact .inr ⟨d, e, xs, h1, h2, h3, h4, i _ _ h5⟩
    | lt => obtain ⟨d, e, h1, h2, h3⟩ := h; exact ⟨d, e, h1, h2, i _ _ h3⟩
    | le => obtain ⟨d, e, h1, h2, h3⟩ := h; exact ⟨d, e, h1, h2, i _ _ h3⟩
    | gt =>
      rcases h with ⟨d, e, h1, h2, h3⟩ | ⟨d, e, h1, h2, h3, h4, h5, h6⟩
      · exact .inl ⟨d, e, h1, h2, i _ _ h3⟩
      · exact .inr ⟨d, e, h1, h2, h3, h4, h5, i _ _ h6⟩
    | ge => obtain ⟨d, e, h1, h2, h3⟩ := h; exact ⟨d, e, h1, h2, i _ _ h3⟩
    | isin => rcases h with (⟨d, e, h1, h2, h3, h4, h5⟩ | ⟨d, e, h1, h2, h3, h4, h5⟩) | ⟨d, e, h1, h2, h3⟩
              · exact .inl (.inl ⟨d, e, h1, h2, h3, h4, i _ _ h5⟩)
              · exact .inl (.inr ⟨d, e, h1, h2, h3, h4, i _ _ h5⟩)
              · exact .inr ⟨d, e, h1, h2, i _ _ h3⟩
    | notin => rcases h with (⟨d, e, h1, h2, h3, h4, h5⟩ | ⟨d, e, h1, h2, h3, h4, h5⟩) | ⟨d, e, h1, h2, h3⟩
               · exact .inl (.inl ⟨d, e, h1, h2, h3, h4, i _ _ h5⟩)
               · exact .inl (.inr ⟨d, e, h1, h2, h3, h4, i _ _ h5⟩)
               · exact .inr ⟨d, e, h1, h2, i _ _ h3⟩
    | is => rcases h with ⟨h1, h2⟩ | ⟨d, e, h1, h2, h3⟩
            · exact .inl ⟨h1, i _ _ h2⟩
            · exact .inr ⟨d, e, h1, h2, i _ _ h3⟩
    | isnot => rcases h with ⟨h1, h2⟩ | ⟨d, e, h1, h2, h3⟩
               · exact .inl ⟨h1, i _ _ h2⟩
               · exact .inr ⟨d, e, h1, h2, i _ _ h3⟩
  refine im (fun z H3 ⟨k, ek, hk⟩ => ⟨k, ek, ?_⟩) q
  cases k with
  | false => exact hk
  | true =>
    obtain ⟨ex3, bt3, st3, E3, S3, C3⟩ := hk
    refine ⟨ex3, bt3, st3, env, S3, V2.ext S2 E3, (Cont.bnd S3 C3).mono fun w H4 ⟨d4, ex4, bt4, st4, E4, S4, R4, C4⟩ => ?_⟩
    exact cmp_ok S4 (RpD.ext S3 E4 (RpD.ext S2 E3 R2)) R4 C4
theorem snd_chain (o o' : Cop) (hu : X.A.units + 65 < cLine) (ha : PE X a (rE X XR bs W ma)) (hb : PE X b (rE X XR bs W mb)) (hc : PE X c (rE X XR bs W mc)) (hm : lastMarks [copOf o, copOf o'] [b, c] = false) :
    PE X (.Compare a [copOf o, copOf o'] [b, c] pos) (rE X XR bs W (chainM o o' ma mb mc)) :=
  (pe_chain (op_rCmp hu o) (op_rCmp hu o') ha hb hc hm).imp fun σ H Q h => chain_rd o o' h
theorem bnd_ok {α β : Type} {m : M α} {f : α → M β} {s s' : Store} {d : β} (h : (m.bnd f) s = .ok d s') : ∃ a s1, m s = .ok a s1 ∧ f a s1 = .ok d s' := by
  unfold M.bnd at h
  cases e : m s with
  | ok a s1 => rw [e] at h; exact ⟨a, s1, rfl, h⟩
  | exn c v s1 => rw [e] at h; cases h
  | bad => rw [e] at h; cases h
theorem chainM_bool {o o' : Cop} {σ : Env} {s s' : Store} {d : D} (h : chainM o o' ma mb mc σ s = .ok d s') : ∃ r, d = .p (.bool r) := by
  obtain ⟨x, s1, _, h⟩ := bnd_ok h
  obtain ⟨y, s2, _, h⟩ := bnd_ok h
  obtain ⟨r, s3, e3, h⟩ := bnd_ok h
  obtain ⟨k, rfl⟩ := cmpD_bool e3
  cases k with
  | true =>
    obtain ⟨z, s4, _, h⟩ := bnd_ok h
    exact cmpD_bool h
  | false => cases h; exact ⟨_, rfl⟩
theorem Cont.boolT {K : KW} {base : List Nat} {Y : XK} {ex : List Addr} {bt : Bt} {H : Hp} {st : Store} {m : M D} {Q : Bool → Hp → Prop} (hb : ∀ d s', m st = .ok d s' → ∃ r, d = .p (.bool r))
    (h : Cont K XR base Y (fun _ _ _ (v : Bool) b => v = b) ex bt H ((m.bnd truD) st) Q) : Cont K XR base Y (RpD K) ex bt H (m st) fun z H' => ∃ k, z = .bl k ∧ Q k H' := by
  unfold M.bnd at h
  cases e : m st with
  | ok d s' =>
    rw [e] at h
    obtain ⟨r, rfl⟩ := hb d s' e
    intro v H' ex' bt' E S R
    exact ⟨r, (Cur.p (show Rp K H' ex' v (.bool r) from R)).bool, h r H' ex' bt' E S rfl⟩
  | exn c v s => rw [e] at h; exact h
  | bad => rw [e] at h; exact h
theorem sndT_chain (o o' : Cop) (hu : X.A.units + 65 < cLine) (ha : PE X a (rE X XR bs W ma)) (hb : PE X b (rE X XR bs W mb)) (hc : PE X c (rE X XR bs W mc)) (hm : lastMarks [copOf o, copOf o'] [b, c] = false) :
    PT X (.Compare a [copOf o, copOf o'] [b, c] pos) (rT X XR bs W fun σ => (chainM o o' ma mb mc σ).bnd truD) :=
  (pt_chain (op_rCmp hu o) (op_rCmp hu o') ha hb hc hm).imp fun σ H Q ⟨ex, bt, st, env, S, V, C⟩ => chain_rd o o' ⟨ex, bt, st, env, S, V, Cont.boolT (fun _ _ h => chainM_bool h) C⟩
theorem snd_and {rest : List Expr} (ha : PE X a (rE X XR bs W ma)) (hb : PE X (.BoolOp .And (b :: rest) pos) (rE X XR bs W mb)) :
    PE X (.BoolOp .And (a :: b :: rest) pos) (rE X XR bs W fun σ => (ma σ).bnd fun x => (truD x).bnd fun t => if t then mb σ else M.ret x) := by
  refine (pe_andT ha hb).imp fun σ H Q ⟨ex, bt, st, env, S, V, C⟩ => ⟨ex, bt, st, env, S, V, (Cont.bnd S C).mono fun x H1 ⟨d, ex1, bt1, st1, E1, S1, R1, C1⟩ => ?_⟩
  obtain ⟨k, t, C2⟩ := Cont.tru S1 R1 C1
  refine ⟨k, t, ?_⟩
  cases k with
  | true => exact ⟨ex1, bt1, st1, env, S1, V.ext S E1, C2⟩
  | false => exact C2.val S1 R1
theorem snd_or {rest : List Expr} (ha : PE X a (rE X XR bs W ma)) (hb : PE X (.BoolOp .Or (b :: rest) pos) (rE X XR bs W mb)) :
    PE X (.BoolOp .Or (a :: b :: rest) pos) (rE X XR bs W fun σ => (ma σ).bnd fun x => (truD x).bnd fun t => if t then M.ret x else mb σ) := by
  refine (pe_orT ha hb).imp fun σ H Q ⟨ex, bt, st, env, S, V, C⟩ => ⟨ex, bt, st, env, S, V, (Cont.bnd S C).mono fun x H1 ⟨d, ex1, bt1, st1, E1, S1, R1, C1⟩ => ?_⟩
  obtain ⟨k, t, C2⟩ := Cont.tru S1 R1 C1
  refine ⟨k, t, ?_⟩
  cases k with
  | false => exact ⟨ex1, bt1, st1, env, S1, V.ext S E1, C2⟩
  | true => exact C2.val S1 R1
/-! ### tests -/
theorem sndT_val (ha : PE X a (rE X XR bs W ma)) (he : ∀ whole, isTrue a X.env whole = (do let v ← whole; standAt a.pos; holding [v] (truthy v))) : PT X a (rT X XR bs W fun σ => (ma σ).bnd truD) := by
  refine (pt_truth ha he).imp fun σ H Q ⟨ex, bt, st, env, S, V, C⟩ => ⟨ex, bt, st, env, S, V, (Cont.bnd S C).mono fun x H1 ⟨d, ex1, bt1, st1, E1, S1, R1, C1⟩ => ?_⟩
  have C1' : Cont (kw X) XR bs (fun c d H => W c d σ H) (fun _ _ _ (v : Bool) b => v = b) ex1 bt1 H1 (((truD d).bnd M.ret) st1) Q := by
    have e : (truD d).bnd M.ret = truD d := by
      funext s
      unfold M.bnd
      cases truD d s <;> rfl
    rw [e]; exact C1
  obtain ⟨k, t, C2⟩ := Cont.tru S1 R1 C1'
  exact ⟨k, t, Cont.ret S1 C2 rfl⟩
theorem truD_again {d : D} {s s' : Store} {t : Bool} (h : truD d s = .ok t s') : s' = s := by
  unfold truD M.bnd at h
  cases e : view d s with
  | ok p s1 =>
    rw [e] at h
    have es : s1 = s := by
      cases d with
      | p d => cases e; rfl
      | loc i =>
        rw [view_loc] at e
        split at e
        · split at e <;> cases e
          rfl
        · cases e
      | scr ns => cases e; rfl
      | iset ns => cases e
      | tset ns => cases e
      | fn f => cases e
    subst es
    dsimp only at h
    cases e2 : truP p with
    | none => rw [e2] at h; cases h
    | some b => rw [e2] at h; cases h; rfl
  | exn c v s => rw [e] at h; cases h
  | bad => rw [e] at h; cases h
theorem and_truth (m n : M D) : ((m.bnd fun x => (truD x).bnd fun t => if t then n else M.ret x).bnd truD) = (m.bnd truD).bnd fun t => if t then n.bnd truD else M.ret false := by
  rw [bnd_assoc, bnd_assoc]
  congr 1
  funext x
  rw [bnd_assoc]
  funext s
  unfold M.bnd
  cases e : truD x s with
  | ok t s1 =>
    have es := truD_again e
    subst es
    cases t with
    | true => rfl
    | false => dsimp only; simp only [Bool.false_eq_true, if_false, M.ret]; rw [e]
  | exn c v s1 => rfl
  | bad => rfl
theorem or_truth (m n : M D) : ((m.bnd fun x => (truD x).bnd fun t => if t then M.ret x else n).bnd truD) = (m.bnd truD).bnd fun t => if t then M.ret true else n.bnd truD := by
  rw [bnd_assoc, bnd_assoc]
  congr 1
  funext x
  rw [bnd_assoc]
  funext s
  unfold M.bnd
  cases e : truD x s with
  | ok t s1 =>
    have es := truD_again e
    subst es
    cases t with
    | true => dsimp only; simp only [if_true, M.ret]; rw [e]
    | false => rfl
  | exn c v s1 => rfl
  | bad => rfl
theorem not_truth (m : M D) : ((m.bnd fun x => (truD x).bnd fun t => M.ret (.p (.bool (!t)))).bnd truD) = (m.bnd truD).bnd fun t => M.ret (!t) := by
  rw [bnd_assoc, bnd_assoc]
  congr 1
  funext x
  rw [bnd_assoc]
  rfl
theorem ite_truth (m p q : M D) : ((m.bnd fun z => (truD z).bnd fun t => if t then p else q).bnd truD) = (m.bnd truD).bnd fun t => if t then p.bnd truD else q.bnd truD := by
  rw [bnd_assoc, bnd_assoc]
  congr 1
  funext x
  rw [bnd_assoc]
  congr 1
  funext t
  cases t <;> rfl
/-- a test, then what follows -/
theorem Cont.tst {K : KW} {β μ : Type} {R' : Hp → List Addr → Bt → μ → β → Prop} {base : List Nat} {Y : XK} {ex : List Addr} {bt : Bt} {H : Hp} {st : Store} {m : M Bool} {f : Bool → M β} {Q : μ → Hp → Prop} (S : SRel K base ex bt st H)
    (h : Cont K XR base Y R' ex bt H ((m.bnd f) st) Q) : Cont K XR base Y (fun _ _ _ (v : Bool) b => v = b) ex bt H (m st) fun k H1 => ∃ ex1 bt1 st1, Ext ex bt H ex1 bt1 H1 ∧ SRel K base ex1 bt1 st1 H1 ∧ Cont K XR base Y R' ex1 bt1 H1 (f k st1) Q :=
  (Cont.bnd S h).mono fun k H1 ⟨d, ex1, bt1, st1, E1, S1, R1, C1⟩ => ⟨ex1, bt1, st1, E1, S1, by rw [R1]; exact C1⟩
theorem sndT_and {rest : List Expr} {ta tb : Env → M Bool} (ha : PT X a (rT X XR bs W ta)) (hb : PW X (.BoolOp .And (b :: rest) pos) (rT X XR bs W tb)) : PW X (.BoolOp .And (a :: b :: rest) pos) (rT X XR bs W fun σ => (ta σ).bnd fun t => if t then tb σ else M.ret false) := by
  refine (pw_and ha hb).imp fun σ H Q ⟨ex, bt, st, env, S, V, C⟩ => ⟨ex, bt, st, env, S, V, (Cont.tst S C).mono fun k H1 ⟨ex1, bt1, st1, E1, S1, C1⟩ => ?_⟩
  cases k with
  | true => exact ⟨ex1, bt1, st1, env, S1, V.ext S E1, C1⟩
  | false => exact Cont.ret S1 C1 rfl
theorem sndT_or {rest : List Expr} {ta tb : Env → M Bool} (ha : PT X a (rT X XR bs W ta)) (hb : PW X (.BoolOp .Or (b :: rest) pos) (rT X XR bs W tb)) : PW X (.BoolOp .Or (a :: b :: rest) pos) (rT X XR bs W fun σ => (ta σ).bnd fun t => if t then M.ret true else tb σ) := by
  refine (pw_or ha hb).imp fun σ H Q ⟨ex, bt, st, env, S, V, C⟩ => ⟨ex, bt, st, env, S, V, (Cont.tst S C).mono fun k H1 ⟨ex1, bt1, st1, E1, S1, C1⟩ => ?_⟩
  cases k with
  | false => exact ⟨ex1, bt1, st1, env, S1, V.ext S E1, C1⟩
  | true => exact Cont.ret S1 C1 rfl
theorem sndT_not {ta : Env → M Bool} (ha : PT X a (rT X XR bs W ta)) : PT X (.UnaryOp .Not a pos) (rT X XR bs W fun σ => (ta σ).bnd fun t => M.ret (!t)) := by
  refine (pt_not ha).imp fun σ H Q ⟨ex, bt, st, env, S, V, C⟩ => ⟨ex, bt, st, env, S, V, (Cont.tst S C).mono fun k H1 ⟨ex1, bt1, st1, E1, S1, C1⟩ => ?_⟩
  exact Cont.ret S1 C1 rfl
theorem snd_ite {tc : Env → M Bool} (hc : PT X c (rT X XR bs W tc)) (ha : PE X a (rE X XR bs W ma)) (hb : PE X b (rE X XR bs W mb)) : PE X (.IfExp c a b pos) (rE X XR bs W fun σ => (tc σ).bnd fun t => if t then ma σ else mb σ) := by
  refine (pe_ifExp hc ha hb).imp fun σ H Q ⟨ex, bt, st, env, S, V, C⟩ => ⟨ex, bt, st, env, S, V, (Cont.tst S C).mono fun k H1 ⟨ex1, bt1, st1, E1, S1, C1⟩ => ?_⟩
  cases k with
  | true => exact ⟨ex1, bt1, st1, env, S1, V.ext S E1, C1⟩
  | false => exact ⟨ex1, bt1, st1, env, S1, V.ext S E1, C1⟩
theorem sndT_ite {tc ta tb : Env → M Bool} (hc : PT X c (rT X XR bs W tc)) (ha : PT X a (rT X XR bs W ta)) (hb : PT X b (rT X XR bs W tb)) : PT X (.IfExp c a b pos) (rT X XR bs W fun σ => (tc σ).bnd fun t => if t then ta σ else tb σ) := by
  refine ⟨fun pins s σ H Q I ⟨ex, bt, st, env, S, V, C⟩ => isTrue_IfExp (thn (hc.run pins s σ H (fun k H1 => ∃ ex1 bt1 st1, Ext ex bt H ex1 bt1 H1 ∧ SRel (kw X) bs ex1 bt1 st1 H1 ∧ Cont (kw X) XR bs (fun c d H => W c d σ H) (fun _ _ _ (v : Bool) b => v = b) ex1 bt1 H1 ((if k then ta env else tb env) st1) Q) I ⟨ex, bt, st, env, S, V, Cont.tst S C⟩) fun k s1 hk => ?_)⟩
  obtain ⟨H1, I1, ex1, bt1, st1, E1, S1, C1⟩ := hk
  cases k with
  | true => exact ha.run pins s1 σ H1 Q I1 ⟨ex1, bt1, st1, env, S1, V.ext S E1, C1⟩
  | false => exact hb.run pins s1 σ H1 Q I1 ⟨ex1, bt1, st1, env, S1, V.ext S E1, C1⟩
/-! ### argument lists, displays -/
theorem sndA_nil : PA X [] (rA X XR bs W fun _ => M.ret []) := pa_nil.imp fun σ H Q ⟨ex, bt, st, env, S, V, C⟩ => Cont.ret S C (.nil)
theorem sndA_cons (ha : PE X a (rE X XR bs W ma)) (hr : PA X es (rA X XR bs W ms)) (hs : starEach (a :: es) X.env = (false, eval a X.env) :: starEach es X.env) :
    PA X (a :: es) (rA X XR bs W fun σ => (ma σ).bnd fun x => (ms σ).bnd fun xs => M.ret (x :: xs)) := by
  refine (pa_cons ha hr hs).imp fun σ H Q ⟨ex, bt, st, env, S, V, C⟩ => ⟨ex, bt, st, env, S, V, (Cont.bnd S C).mono fun x H1 ⟨d, ex1, bt1, st1, E1, S1, R1, C1⟩ => ?_⟩
  refine ⟨ex1, bt1, st1, env, S1, V.ext S E1, (Cont.bnd S1 C1).mono fun xs H2 ⟨ds, ex2, bt2, st2, E2, S2, R2, C2⟩ => ?_⟩
  exact Cont.ret S2 C2 (.cons (RpD.ext S1 E2 R1) R2)
theorem sndA_star {p : Pos} (ha : PE X a (rE X XR bs W ma)) (hr : PA X es (rA X XR bs W ms)) :
    PA X (.Starred a p :: es) (rA X XR bs W fun σ => (ma σ).bnd fun x => (view x).bnd fun p => (M.opt (match p with
    | .list ys => some ys
    | .tuple ys => some ys
    | _ => none)).bnd fun ys => (ms σ).bnd fun xs => M.ret (ys.map D.p ++ xs)) := by
  refine (StX.pa_star ha hr).imp fun σ H Q ⟨ex, bt, st, env, S, VV, C⟩ => ⟨ex, bt, st, env, S, VV, (Cont.bnd S C).mono fun x H1 ⟨d, ex1, bt1, st1, E1, S1, R1, C1⟩ => ?_⟩
  obtain ⟨p, c, -, C2⟩ := Cont.view S1 R1 C1
  obtain ⟨ys, e, C3⟩ := Cont.opt C2
  have fin : ∀ {vs : List V}, Rps (kw X) H1 ex1 vs ys → rA X XR bs W ms σ H1 fun zs H2 => Q (vs ++ zs) H2 := fun {vs} r => by
    refine ⟨ex1, bt1, st1, env, S1, VV.ext S E1, (Cont.bnd S1 C3).mono fun xs H2 ⟨ds, ex2, bt2, st2, E2, S2, R2, C4⟩ => ?_⟩
    exact Cont.ret S2 C4 (rpds_append (rpds_of (Rps.ext S1 E2 r)) R2)
  cases p with
  | list zs =>
    cases e
    obtain ⟨a, vs, rfl, h1, r⟩ := c.list
    exact ⟨a, vs, rfl, .inr h1, fin r⟩
  | tuple zs =>
    cases e
    obtain ⟨a, vs, rfl, h1, r⟩ := c.tup
    exact ⟨a, vs, rfl, .inl h1, fin r⟩
  | _ => cases e
theorem snd_tup {x1 : Nat} (h : PA X es (rA X XR bs W ms)) : PE X (.Tuple es x1 pos) (rE X XR bs W fun σ => (ms σ).bnd fun xs => if decide (xs.length ≤ line) then (takes xs).bnd fun ps => M.ret (.p (.tuple ps)) else M.bad) := by
  refine (pe_tup h).imp fun σ H Q ⟨ex, bt, st, env, S, V, C⟩ => ⟨ex, bt, st, env, S, V, (Cont.bnd S C).mono fun xs H1 ⟨ds, ex1, bt1, st1, E1, S1, R1, C1⟩ => ?_⟩
  split at C1
  · rename_i hl
    obtain ⟨ps, ex2, bt2, st2, E2, S2, r2, C2⟩ := Cont.takes S1 R1 C1
    exact ⟨by rw [line_eq, rpds_len R1]; exact of_decide_eq_true hl, C2.tup S2 r2⟩
  · exact (show False from C1).elim
theorem snd_lst (h : PA X es (rA X XR bs W ms)) : PE X (.List es pos) (rE X XR bs W fun σ => (ms σ).bnd fun xs => if decide (xs.length ≤ line) then (takes xs).bnd fun ps => M.ret (.p (.list ps)) else M.bad) := by
  refine (pe_lst h).imp fun σ H Q ⟨ex, bt, st, env, S, V, C⟩ => ⟨ex, bt, st, env, S, V, (Cont.bnd S C).mono fun xs H1 ⟨ds, ex1, bt1, st1, E1, S1, R1, C1⟩ => ?_⟩
  split at C1
  · rename_i hl
    obtain ⟨ps, ex2, bt2, st2, E2, S2, r2, C2⟩ := Cont.takes S1 R1 C1
    exact ⟨by rw [line_eq, rpds_len R1]; exact of_decide_eq_true hl, C2.lst S2 r2⟩
  · exact (show False from C1).elim
/-! ### places, slices -/
theorem snd_idx (ha : PE X a (rE X XR bs W ma)) (hb : PE X b (rE X XR bs W mb)) (hs : PlainIx b) : PE X (.Subscript a b pos) (rE X XR bs W fun σ => (ma σ).bnd fun x => (mb σ).bnd fun y => idxD x y) := by
  refine (pe_ix ix_seq ha hb hs).imp fun σ H Q ⟨ex, bt, st, env, S, V, C⟩ => ⟨ex, bt, st, env, S, V, (Cont.bnd S C).mono fun x H1 ⟨d, ex1, bt1, st1, E1, S1, R1, C1⟩ => ?_⟩
  refine ⟨ex1, bt1, st1, env, S1, V.ext S E1, (Cont.bnd S1 C1).mono fun y H2 ⟨d2, ex2, bt2, st2, E2, S2, R2, C2⟩ => ?_⟩
  exact idx_ok S2 (RpD.ext S1 E2 R1) R2 C2
/-- an optional part of a slice -/
abbrev rO (X : Cx) (XR : Nat → Option P → XK → Hp → Prop) (bs : List Nat) (W : WX) (m : Env → M (Option Int)) : TO := fun σ H Q =>
  ∃ ex bt st env, SRel (kw X) bs ex bt st H ∧ EnvR (kw X) H ex bt env σ ∧ Cont (kw X) XR bs (fun c d H => W c d σ H) (fun _ _ _ (v : Option Int) b => v = b) ex bt H (m env st) Q
theorem _root_.L2.PO.imp {X : Cx} {e : Option Expr} {t t' : TO} (h : PO X e t) (i : ∀ σ H Q, t' σ H Q → t σ H Q) : PO X e t' := ⟨fun pins s σ H Q I q => h.run pins s σ H Q I (i σ H Q q)⟩
theorem sndO_none : PO X none (rO X XR bs W fun _ => M.ret none) := po_none.imp fun σ H Q ⟨ex, bt, st, env, S, V, C⟩ => Cont.ret S C rfl
theorem sndO_some (ha : PE X a (rE X XR bs W ma)) : PO X (some a) (rO X XR bs W fun σ => (ma σ).bnd fun x => partD (some x)) := by
  refine (po_some ha).imp fun σ H Q ⟨ex, bt, st, env, S, V, C⟩ => ⟨ex, bt, st, env, S, V, (Cont.bnd S C).mono fun x H1 ⟨d, ex1, bt1, st1, E1, S1, R1, C1⟩ => ?_⟩
  cases d with
  | p d =>
    cases d with
    | int i => exact ⟨i, (Cur.p (show Rp (kw X) H1 ex1 x (.int i) from R1)).int, Cont.ret S1 C1 rfl⟩
    | _ => exact (show False from C1).elim
  | _ => exact (show False from C1).elim
theorem snd_slc {lo hi : Option Expr} {p2 : Pos} {ml mh : Env → M (Option Int)} (ha : PE X a (rE X XR bs W ma)) (hl : PO X lo (rO X XR bs W ml)) (hh : PO X hi (rO X XR bs W mh)) :
    PE X (.Subscript a (.Slice lo hi none p2) pos) (rE X XR bs W fun σ => (ma σ).bnd fun x => (ml σ).bnd fun l => (mh σ).bnd fun h => (view x).bnd fun p => (M.opt (slcP p l h)).bnd fun r => M.ret (.p r)) := by
  refine (pe_slice sl_rSlc ha hl hh).imp fun σ H Q ⟨ex, bt, st, env, S, V, C⟩ => ⟨ex, bt, st, env, S, V, (Cont.bnd S C).mono fun x H1 ⟨d, ex1, bt1, st1, E1, S1, R1, C1⟩ => ?_⟩
  have V1 := V.ext S E1
  refine ⟨ex1, bt1, st1, env, S1, V1, (Cont.bnd S1 C1).mono fun l H2 ⟨d2, ex2, bt2, st2, E2, S2, R2, C2⟩ => ?_⟩
  refine ⟨ex2, bt2, st2, env, S2, V1.ext S1 E2, (Cont.bnd S2 C2).mono fun h H3 ⟨d3, ex3, bt3, st3, E3, S3, R3, C3⟩ => ?_⟩
  subst R2 R3
  exact slc_ok S3 (RpD.ext S2 E3 (RpD.ext S1 E2 R1)) C3
theorem snd_rev {k : Nat} {p1 p2 p3 : Pos} (ha : PE X a (rE X XR bs W ma)) : PE X (.Subscript a (.Slice none none (some (.UnaryOp .USub (.Constant (.int 1) k p1) p2)) p3) pos)
    (rE X XR bs W fun σ => (ma σ).bnd fun x => (view x).bnd fun p => (M.opt (revP p)).bnd fun r => M.ret (.p r)) := by
  refine (pe_revA ha).imp fun σ H Q ⟨ex, bt, st, env, S, V, C⟩ => ⟨ex, bt, st, env, S, V, (Cont.bnd S C).mono fun x H1 ⟨d, ex1, bt1, st1, E1, S1, R1, C1⟩ => ?_⟩
  exact rev_ok S1 R1 C1
/-! ### built-ins, methods -/
theorem snd_blt {o : Blt} {p : Pos} (hc : X.calm = true) (hg : X.A.guards = some []) (hu : X.A.units + 65 < cLine) (gl : Gl X (bltN o)) (hm : X.mg (bltN o) = none) (h : PA X (e :: es) (rA X XR bs W ms))
    (hs : starEach (e :: es) X.env = (false, eval e X.env) :: starEach es X.env) (hpl : (backTo pos (starEach es X.env)).any (·.1) = false) :
    PE X (.Call (.Name (bltN o) p) (e :: es) [] pos) (rE X XR bs W fun σ => (ms σ).bnd fun xs => bltD o xs) := by
  have rd : ∀ σ H Q, rE X XR bs W (fun σ => (ms σ).bnd fun xs => bltD o xs) σ H Q → tCB (rBlt (kw X) o) (rA X XR bs W ms) σ H Q := fun σ H Q ⟨ex, bt, st, env, S, V, C⟩ =>
    ⟨ex, bt, st, env, S, V, (Cont.bnd S C).mono fun xs H1 ⟨ds, ex1, bt1, st1, E1, S1, R1, C1⟩ => blt_ok S1 R1 C1⟩
  have hv := blt_boot o
  have rule := blt_rule hc hg hu o
  have n1 : bltN o ≠ "__name__" := by cases o <;> decide +kernel
  have n2 : (bltN o == ("__debug__" : Str)) = false := by cases o <;> decide +kernel
  have key : (∃ id, bltV o = .builtin id) ∨ ∃ T, bltV o = .type T := by
    cases o <;> first | exact .inl ⟨_, rfl⟩ | exact .inr ⟨_, rfl⟩
  rcases key with ⟨id, ev⟩ | ⟨T, ev⟩
  · rw [ev] at hv rule
    exact (pe_callB rule gl hm hv h n1 n2 hs hpl).imp rd
  · rw [ev] at hv rule
    exact (pe_callTy rule gl hm hv h n1 n2 hs hpl).imp rd
theorem mth_facts (m : Mth) (hm : mthHas m = true) : PlainAttrs (mthT m) ∧ Slot (mthT m) (mthN m) (mthI m) ∧ typeOf (.builtin (mthI m)) = pure (.type "method_descriptor") := by
  cases m with
  | append => exact ⟨F.plainAttrs_list, F.slot_list_append, F.type_list_append⟩
  | extend => exact ⟨F.plainAttrs_list, F.slot_list_extend, F.type_list_extend⟩
  | pop => exact ⟨F.plainAttrs_list, F.slot_list_pop, F.type_list_pop⟩
  | popAt => exact ⟨F.plainAttrs_list, F.slot_list_pop, F.type_list_pop⟩
  | index => exact ⟨F.plainAttrs_list, F.slot_list_index, F.type_list_index⟩
  | remove => exact ⟨F.plainAttrs_list, F.slot_list_remove, F.type_list_remove⟩
  | join => exact ⟨F.plainAttrs_str, F.slot_str_join, F.type_str_join⟩
  | partition => exact ⟨F.plainAttrs_str, F.slot_str_partition, F.type_str_partition⟩
  | split => exact ⟨F.plainAttrs_str, F.slot_str_split, F.type_str_split⟩
  | startswith => exact ⟨F.plainAttrs_str, F.slot_str_startswith, F.type_str_startswith⟩
  | count => cases hm
  | insert => cases hm
  | upper => cases hm
theorem snd_mth {m : Mth} {o : Expr} {apos : Pos} {mo : Env → M D} {b0 : Nat} (hb0 : ∀ b, b ∈ bs → b ≤ b0) (hm : mthHas m = true) (hu : X.A.units + 65 < cLine) (ho : PE X o (rE X XR bs W mo)) (h : PA X (e :: es) (rA X XR bs W ms))
    (hbase : attributeBase o (mthN m) X.env (eval o X.env) = eval o X.env)
    (hfew : ((backTo pos (starEach (e :: es) X.env)).all (fun x => !x.1) && (backToKw pos (keywordEach [] X.env)).all (fun x => x.1.isSome) && decide ((e :: es).length + ([] : List Keyword).length + (if ([] : List Keyword).isEmpty then 0 else 1) < 30)) = true)
    (hline : (apos.endLine == pos.line) = true) (hs : starEach (e :: es) X.env = (false, eval e X.env) :: starEach es X.env) (hpl : (backTo pos (starEach es X.env)).any (·.1) = false) :
    PE X (.Call (.Attribute o (mthN m) apos) (e :: es) [] pos) (rE X XR bs W fun σ => (mo σ).bnd fun x => (mthChk m x).bnd fun _ => (ms σ).bnd fun xs => mthD b0 m x xs) := by
  obtain ⟨f1, f2, f3⟩ := mth_facts m hm
  refine (pe_bm f1 f2 f3 (mth_rule hu m) ho h hbase hfew hline hs hpl).imp fun σ H Q ⟨ex, bt, st, env, S, V, C⟩ => ⟨ex, bt, st, env, S, V, (Cont.bnd S C).mono fun x H1 ⟨d, ex1, bt1, st1, E1, S1, R1, C1⟩ => ?_⟩
  obtain ⟨ty, C2⟩ := Cont.mthChk S1 R1 C1
  refine ⟨ty, ex1, bt1, st1, env, S1, V.ext S E1, (Cont.bnd S1 C2).mono fun xs H2 ⟨ds, ex2, bt2, st2, E2, S2, R2, C3⟩ => ?_⟩
  exact mth_ok hb0 S2 (RpD.ext S1 E2 R1) R2 C3
theorem snd_mth0 {m : Mth} {o : Expr} {apos : Pos} {mo : Env → M D} {b0 : Nat} (hb0 : ∀ b, b ∈ bs → b ≤ b0) (hm : mthHas m = true) (hu : X.A.units + 65 < cLine) (ho : PE X o (rE X XR bs W mo))
    (hbase : attributeBase o (mthN m) X.env (eval o X.env) = eval o X.env) (hline : (apos.endLine == pos.line) = true) :
    PE X (.Call (.Attribute o (mthN m) apos) [] [] pos) (rE X XR bs W fun σ => (mo σ).bnd fun x => (mthChk m x).bnd fun _ => (M.ret ([] : List D)).bnd fun xs => mthD b0 m x xs) := by
  obtain ⟨f1, f2, f3⟩ := mth_facts m hm
  refine (pe_bm0 f1 f2 f3 (mth_rule hu m) ho hbase hline).imp fun σ H Q ⟨ex, bt, st, env, S, V, C⟩ => ⟨ex, bt, st, env, S, V, (Cont.bnd S C).mono fun x H1 ⟨d, ex1, bt1, st1, E1, S1, R1, C1⟩ => ?_⟩
  obtain ⟨ty, C2⟩ := Cont.mthChk S1 R1 C1
  exact ⟨ty, mth_ok hb0 S1 R1 .nil C2⟩
end
end Ev

end
section
set_option maxHeartbeats 1000000
/-! Ev 46: zip of a tuple with a list (printed by zipmix.py). -/
namespace RZ
open PySem
open PySem.Sem (wp)
section
variable {prog : Program} {w : World} {A : Around} {E : Value → Shared → Prop} {s : Shared}
theorem zipM_next_item {z TI TO i1 i2 l1 l2 : Addr} {k1 k2 : Nat} {xs ys : Array Value} {x y a b : Value} {Q : Value → Shared → Prop} (D : ZipApart z TI TO i1 i2 l1 l2)
    (hz : IsZip s.heap z TI TO .none) (hTI : IsPair s.heap TI (.ref i1) (.ref i2)) (hTO : IsPair s.heap TO a b)
    (h1 : s.heap.IsTupleIter i1 l1 k1) (h2 : s.heap.IsListIter i2 l2 k2) (hl1 : s.heap.IsTuple l1 xs) (hl2 : s.heap.IsList l2 ys) (hx : xs[k1]? = some x) (hy : ys[k2]? = some y)
    (hQ : ∀ h', IsZip h' z TI TO (rawInt s.heap.objs.size) → IsPair h' TO x y → h'.IsTupleIter i1 l1 (k1 + 1) → h'.IsListIter i2 l2 (k2 + 1) → IsPair h' s.heap.objs.size x y → h'.objs.size = s.heap.objs.size + 1 →
      (∀ c o, c ≠ z → c ≠ TO → c ≠ i1 → c ≠ i2 → s.heap.get? c = some o → h'.get? c = some o) → Q (.ref s.heap.objs.size) { s with heap := h' }) :
    wpAny (model prog w) A (Builtin.«zip.__next__» ⟨[.ref z], []⟩) (fun fin s' => ∃ v, fin = .done (.ret v) ∧ Q v s') E s := by
  show wpAny _ _ (field (.ref z) 2 >>= _) _ _ _
  refine wpAny_bind (wpAny_field hz rfl (x := .bool false) rfl ?_)
  show wpAny _ _ (field (.ref z) 3 >>= _) _ _ _
  refine wpAny_bind (wpAny_field hz rfl (x := .ref TI) rfl ?_)
  refine wpAny_bind (wpAny_seqItems hTI rfl ?_)
  show wpAny _ _ (Builtin.SmallTypes.ownedTupleIsFree (.ref z) >>= _) _ _ _
  refine wpAny_bind ?_
  unfold Builtin.SmallTypes.ownedTupleIsFree
  refine wpAny_bind (wpAny_field hz rfl (x := .none) rfl (wpAny_pure ?_))
  simp only [if_true]
  refine wpAny_bind (wpAny_rule ?_)
  refine wpAny_bind (wpAny_field hz rfl (x := .ref TO) rfl ?_)
  refine wpAny_bind (wpAny_setField_rec hz (by simp) fun h₁ hz₁ hs₁ => ?_)
  replace hz₁ : IsZip h₁ z TI TO .ellipsis := hz₁
  refine wpAny_bind ?_
  simp only [List.zipIdx_cons, List.zipIdx_nil, List.forIn_cons, List.forIn_nil]

  refine wpAny_bind (wpAny_bind (wpAny_onRaise ?_))
  show wpAny _ _ (Builtin.SmallTypes.nextOf (.ref i1) >>= _) _ _ _
  refine wpAny_bind (nextOf_tuple_item (h1.extBut hs₁.extBut D.i1z) (hl1.extBut hs₁.extBut D.l1z) hx fun h₂ h1₂ hs₂ => wpAny_pure ?_)
  have hTO₂ : IsPair h₂ TO a b := hs₂.extBut _ _ D.TOi1 (hs₁.extBut _ _ D.TOz hTO)
  refine wpAny_bind (wpAny_seqItems hTO₂ rfl ?_)
  refine wpAny_bind (wpAny_updateSeq_pair hTO₂ fun h₃ hTO₃ hs₃ => ?_)
  replace hTO₃ : IsPair h₃ TO x b := hTO₃
  refine wpAny_bind (wpAny_letGo (wpAny_pure ?_))

  refine wpAny_bind (wpAny_bind (wpAny_onRaise ?_))
  show wpAny _ _ (Builtin.SmallTypes.nextOf (.ref i2) >>= _) _ _ _
  refine wpAny_bind (wpAny_nextOf_list_item (((h2.extBut hs₁.extBut D.i2z).extBut hs₂.extBut D.i12.symm).extBut hs₃.extBut D.TOi2.symm)
    (((hl2.extBut hs₁.extBut D.l2z).extBut hs₂.extBut D.l2i1).extBut hs₃.extBut D.l2TO) hy fun h₄ h2₄ hs₄ => wpAny_pure ?_)
  have hTO₄ : IsPair h₄ TO x b := hs₄.extBut _ _ D.TOi2 hTO₃
  refine wpAny_bind (wpAny_seqItems hTO₄ rfl ?_)
  refine wpAny_bind (wpAny_updateSeq_pair hTO₄ fun h₅ hTO₅ hs₅ => ?_)
  replace hTO₅ : IsPair h₅ TO x y := hTO₅
  refine wpAny_bind (wpAny_letGo (wpAny_pure (wpAny_pure ?_)))

  refine wpAny_bind (wpAny_seqItems hTO₅ rfl ?_)
  refine wpAny_bind (wpAny_newTuple ?_)
  have hsz : h₅.objs.size = s.heap.objs.size := by rw [hs₅.1, hs₄.1, hs₃.1, hs₂.1, hs₁.1]
  have hz₅ : IsZip h₅ z TI TO .ellipsis := hs₅.extBut _ _ D.TOz.symm (hs₄.extBut _ _ D.i2z.symm (hs₃.extBut _ _ D.TOz.symm (hs₂.extBut _ _ D.i1z.symm hz₁)))
  have hk₅ : ∀ c o, c ≠ z → c ≠ TO → c ≠ i1 → c ≠ i2 → s.heap.get? c = some o → h₅.get? c = some o := fun c o c1 c2 c3 c4 e =>
    hs₅.extBut _ _ c2 (hs₄.extBut _ _ c4 (hs₃.extBut _ _ c2 (hs₂.extBut _ _ c3 (hs₁.extBut _ _ c1 e))))
  have h1₅ : h₅.IsTupleIter i1 l1 (k1 + 1) := ((h1₂.extBut hs₃.extBut D.TOi1.symm).extBut hs₄.extBut D.i12).extBut hs₅.extBut D.TOi1.symm
  have h2₅ : h₅.IsListIter i2 l2 (k2 + 1) := h2₄.extBut hs₅.extBut D.TOi2.symm
  have hzlt : z < h₅.objs.size := Heap.lt_size hz₅
  have hTOlt : TO < h₅.objs.size := Heap.lt_size hTO₅
  have hi1lt : i1 < h₅.objs.size := by obtain ⟨_, e, _⟩ := h1₅; exact Heap.lt_size e
  have hi2lt : i2 < h₅.objs.size := by obtain ⟨_, e, _⟩ := h2₅; exact Heap.lt_size e
  show wpAny _ _ (Builtin.SmallTypes.ownedTupleHandOut (.ref z) (.ref h₅.objs.size) >>= _) _ _ _
  refine wpAny_bind ?_
  unfold Builtin.SmallTypes.ownedTupleHandOut
  have hz₆ : IsZip (h₅.push { cls := .type "tuple", data := .seq #[x, y] }) z TI TO .ellipsis := Heap.get?_push_of_some _ hz₅
  refine wpAny_bind (wpAny_setField_rec hz₆ (by simp) fun h₇ hz₇ hs₇ => ?_)
  replace hz₇ : IsZip h₇ z TI TO (rawInt h₅.objs.size) := hz₇
  refine wpAny_setField_rec hz₇ (by simp) fun h₈ hz₈ hs₈ => ?_
  replace hz₈ : IsZip h₈ z TI TO (rawInt h₅.objs.size) := hz₈
  have up : ∀ c o, c ≠ z → h₅.get? c = some o → h₈.get? c = some o := fun c o c1 e => hs₈.extBut _ _ c1 (hs₇.extBut _ _ c1 (Heap.get?_push_of_some _ e))
  have hT₈ : IsPair h₈ h₅.objs.size x y := hs₈.extBut _ _ (Nat.ne_of_gt hzlt) (hs₇.extBut _ _ (Nat.ne_of_gt hzlt) (Heap.get?_push_size _ rfl))
  have hz8 : h₈.objs.size = h₅.objs.size + 1 := by rw [hs₈.1, hs₇.1, Heap.size_push]
  rw [hsz] at hz₈ hT₈ hz8
  refine wpAny_pure ⟨_, rfl, ?_⟩
  show Q (.ref h₅.objs.size) _
  rw [hsz]
  exact hQ h₈ hz₈ (up _ _ D.TOz hTO₅) (h1₅.at fun o e => up _ o D.i1z e) (h2₅.at fun o e => up _ o D.i2z e) hT₈ hz8 fun c o c1 c2 c3 c4 e => up c o c1 (hk₅ c o c1 c2 c3 c4 e)

theorem zipM_next_end {z TI TO i1 i2 l1 l2 : Addr} {k1 k2 : Nat} {xs ys : Array Value} {a b : Value} {Q : Fin → Shared → Prop} (hh : A.handled = none) (D : ZipApart z TI TO i1 i2 l1 l2)
    (hz : IsZip s.heap z TI TO .none) (hTI : IsPair s.heap TI (.ref i1) (.ref i2)) (hTO : IsPair s.heap TO a b)
    (h1 : s.heap.IsTupleIter i1 l1 k1) (h2 : s.heap.IsListIter i2 l2 k2) (hl1 : s.heap.IsTuple l1 xs) (hl2 : s.heap.IsList l2 ys) (hend : xs[k1]? = none ∨ ys[k2]? = none)
    (hE : ∀ h' e, (∀ c o, c ≠ z → c ≠ TO → c ≠ i1 → c ≠ i2 → s.heap.get? c = some o → h'.get? c = some o) → (∃ o, h'.get? e = some o ∧ o.cls = .type "StopIteration") → E (.ref e) { s with heap := h' }) :
    wpAny (model prog w) A (Builtin.«zip.__next__» ⟨[.ref z], []⟩) Q E s := by
  show wpAny _ _ (field (.ref z) 2 >>= _) _ _ _
  refine wpAny_bind (wpAny_field hz rfl (x := .bool false) rfl ?_)
  show wpAny _ _ (field (.ref z) 3 >>= _) _ _ _
  refine wpAny_bind (wpAny_field hz rfl (x := .ref TI) rfl ?_)
  refine wpAny_bind (wpAny_seqItems hTI rfl ?_)
  show wpAny _ _ (Builtin.SmallTypes.ownedTupleIsFree (.ref z) >>= _) _ _ _
  refine wpAny_bind ?_
  unfold Builtin.SmallTypes.ownedTupleIsFree
  refine wpAny_bind (wpAny_field hz rfl (x := .none) rfl (wpAny_pure ?_))
  simp only [if_true]
  refine wpAny_bind (wpAny_rule ?_)
  refine wpAny_bind (wpAny_field hz rfl (x := .ref TO) rfl ?_)
  refine wpAny_bind (wpAny_setField_rec hz (by simp) fun h₁ hz₁ hs₁ => ?_)
  replace hz₁ : IsZip h₁ z TI TO .ellipsis := hz₁
  refine wpAny_bind ?_
  simp only [List.zipIdx_cons, List.zipIdx_nil, List.forIn_cons, List.forIn_nil]
  refine wpAny_bind (wpAny_bind (wpAny_onRaise ?_))
  show wpAny _ _ (Builtin.SmallTypes.nextOf (.ref i1) >>= _) _ _ _
  cases hx : xs[k1]? with
  | none =>
    refine wpAny_bind (nextOf_tuple_end hh (h1.extBut hs₁.extBut D.i1z) (hl1.extBut hs₁.extBut D.l1z) hx fun h₂ e hs₂ he => ?_)
    obtain ⟨oe, hoe, hce⟩ := he
    have hz₂ : IsZip h₂ z TI TO .ellipsis := hs₂ _ _ D.i1z.symm hz₁
    have hez : e ≠ z := fun x => by subst x; rw [hz₂] at hoe; cases hoe; simp at hce
    refine wpAny_setField_rec hz₂ (by simp) fun h₃ _ hs₃ => hE h₃ e (fun c o c1 _ c3 _ x => hs₃.extBut _ _ c1 (hs₂ _ _ c3 (hs₁.extBut _ _ c1 x))) ⟨oe, hs₃.extBut _ _ hez hoe, hce⟩
  | some x =>
    have hy : ys[k2]? = none := by rcases hend with h | h; rw [hx] at h; cases h; exact h
    refine wpAny_bind (nextOf_tuple_item (h1.extBut hs₁.extBut D.i1z) (hl1.extBut hs₁.extBut D.l1z) hx fun h₂ h1₂ hs₂ => wpAny_pure ?_)
    have hTO₂ : IsPair h₂ TO a b := hs₂.extBut _ _ D.TOi1 (hs₁.extBut _ _ D.TOz hTO)
    refine wpAny_bind (wpAny_seqItems hTO₂ rfl ?_)
    refine wpAny_bind (wpAny_updateSeq_pair hTO₂ fun h₃ hTO₃ hs₃ => ?_)
    refine wpAny_bind (wpAny_letGo (wpAny_pure ?_))
    refine wpAny_bind (wpAny_bind (wpAny_onRaise ?_))
    show wpAny _ _ (Builtin.SmallTypes.nextOf (.ref i2) >>= _) _ _ _
    refine wpAny_bind (wpAny_nextOf_list_end hh (((h2.extBut hs₁.extBut D.i2z).extBut hs₂.extBut D.i12.symm).extBut hs₃.extBut D.TOi2.symm)
      (((hl2.extBut hs₁.extBut D.l2z).extBut hs₂.extBut D.l2i1).extBut hs₃.extBut D.l2TO) hy fun h₄ e hs₄ he => ?_)
    obtain ⟨oe, hoe, hce⟩ := he
    have hz₄ : IsZip h₄ z TI TO .ellipsis := hs₄ _ _ D.i2z.symm (hs₃.extBut _ _ D.TOz.symm (hs₂.extBut _ _ D.i1z.symm hz₁))
    have hez : e ≠ z := fun x => by subst x; rw [hz₄] at hoe; cases hoe; simp at hce
    refine wpAny_setField_rec hz₄ (by simp) fun h₅ _ hs₅ => hE h₅ e (fun c o c1 c2 c3 c4 x => hs₅.extBut _ _ c1 (hs₄ _ _ c4 (hs₃.extBut _ _ c2 (hs₂.extBut _ _ c3 (hs₁.extBut _ _ c1 x))))) ⟨oe, hs₅.extBut _ _ hez hoe, hce⟩

theorem pyNext_zipM_item {z TI TO i1 i2 l1 l2 : Addr} {k1 k2 : Nat} {xs ys : Array Value} {x y a b : Value} {Q : Option Value → Shared → Prop} (D : ZipApart z TI TO i1 i2 l1 l2)
    (hz : IsZip s.heap z TI TO .none) (hTI : IsPair s.heap TI (.ref i1) (.ref i2)) (hTO : IsPair s.heap TO a b)
    (h1 : s.heap.IsTupleIter i1 l1 k1) (h2 : s.heap.IsListIter i2 l2 k2) (hl1 : s.heap.IsTuple l1 xs) (hl2 : s.heap.IsList l2 ys) (hx : xs[k1]? = some x) (hy : ys[k2]? = some y)
    (hQ : ∀ h', IsZip h' z TI TO (rawInt s.heap.objs.size) → IsPair h' TO x y → h'.IsTupleIter i1 l1 (k1 + 1) → h'.IsListIter i2 l2 (k2 + 1) → IsPair h' s.heap.objs.size x y → h'.objs.size = s.heap.objs.size + 1 →
      (∀ c o, c ≠ z → c ≠ TO → c ≠ i1 → c ≠ i2 → s.heap.get? c = some o → h'.get? c = some o) → Q (some (.ref s.heap.objs.size)) { s with heap := h' }) :
    wpAny (model prog w) A (pyNext (.ref z)) Q E s := by
  have hT : s.TypeIs (.ref z) "zip" := ⟨_, hz, rfl⟩
  unfold pyNext
  exact wpAny_bind (wpAny_attempt (wpAny_callSpecial?_slot (name := Str.ofString "__next__") hT F.slot_zip_next
    (wpAny_call_entry F.slot_zip_next hT F.entry_zip_next
      (zipM_next_item D hz hTI hTO h1 h2 hl1 hl2 hx hy fun h' a1 a2 a3 a4 a5 a6 a7 => wpAny_pure (hQ h' a1 a2 a3 a4 a5 a6 a7)) (F.args_zip_next_1 _))))

theorem pyNext_zipM_end {z TI TO i1 i2 l1 l2 : Addr} {k1 k2 : Nat} {xs ys : Array Value} {a b : Value} {Q : Option Value → Shared → Prop} (hh : A.handled = none) (D : ZipApart z TI TO i1 i2 l1 l2)
    (hz : IsZip s.heap z TI TO .none) (hTI : IsPair s.heap TI (.ref i1) (.ref i2)) (hTO : IsPair s.heap TO a b)
    (h1 : s.heap.IsTupleIter i1 l1 k1) (h2 : s.heap.IsListIter i2 l2 k2) (hl1 : s.heap.IsTuple l1 xs) (hl2 : s.heap.IsList l2 ys) (hend : xs[k1]? = none ∨ ys[k2]? = none)
    (hQ : ∀ h', (∀ c o, c ≠ z → c ≠ TO → c ≠ i1 → c ≠ i2 → s.heap.get? c = some o → h'.get? c = some o) → Q none { s with heap := h' }) : wpAny (model prog w) A (pyNext (.ref z)) Q E s := by
  have hT : s.TypeIs (.ref z) "zip" := ⟨_, hz, rfl⟩
  unfold pyNext
  refine wpAny_bind (wpAny_attempt (wpAny_callSpecial?_slot (name := Str.ofString "__next__") hT F.slot_zip_next
    (wpAny_call_entry F.slot_zip_next hT F.entry_zip_next (zipM_next_end hh D hz hTI hTO h1 h2 hl1 hl2 hend fun h' e hk he => ?_) (F.args_zip_next_1 _))))
  obtain ⟨o, ho, hc⟩ := he
  refine wpAny_bind (wpAny_isInstance (T := "StopIteration") (b := true) ⟨o, ho, hc⟩ isSubtype_stop ?_)
  exact wpAny_pure (hQ _ hk)
end

abbrev zmH1 (h : Heap) (l1 : Addr) : Heap := h.push { cls := .type "tuple_iterator", data := .fields #[.ref l1, .int 0 0] }
abbrev zmH2 (h : Heap) (l1 l2 : Addr) : Heap := (zmH1 h l1).push { cls := .type "list_iterator", data := .fields #[.ref l2, .int 0 0] }
abbrev zmH3 (h : Heap) (l1 l2 : Addr) : Heap := (zmH2 h l1 l2).push { cls := .type "tuple", data := .seq #[.ref h.objs.size, .ref (zmH1 h l1).objs.size] }
abbrev zmH4 (h : Heap) (l1 l2 : Addr) : Heap := (zmH3 h l1 l2).push { cls := .type "tuple", data := .seq #[.none, .none] }
abbrev zmH5 (h : Heap) (l1 l2 : Addr) : Heap := (zmH4 h l1 l2).push { cls := .type "zip", data := .fields #[.none, .bool false, .bool false, .ref (zmH2 h l1 l2).objs.size, .ref (zmH3 h l1 l2).objs.size] }

theorem meets_zipM_new (l1 l2 : Addr) (xs ys : Array Value) :
    Meets (Builtin.«zip.__new__» ⟨[.type "zip", .ref l1, .ref l2], []⟩) (fun _ R s => s.heap.IsTuple l1 xs ∧ s.heap.IsList l2 ys ∧
      R (.ok (.ret (.ref (zmH4 s.heap l1 l2).objs.size))) { s with heap := zmH5 s.heap l1 l2 }) :=
  .of_wp fun prog w A R s h => by
    obtain ⟨hp, g, d, tk, os⟩ := s; obtain ⟨hl1, hl2, h⟩ := h
    have hsub := sub_zip
    have hL1 : Heap.IsTuple (Shared.heap ⟨hp, g, d, tk, os⟩) l1 xs := hl1
    have hL2 : Heap.IsList (Shared.heap ⟨hp.push { cls := .type "tuple_iterator", data := .fields #[.ref l1, .int 0 0] }, g, d, tk, os⟩) l2 ys := Heap.IsList.push hl2 _
    wp_walk using wpAny_pyIter_tuple hL1, wpAny_pyIter_list hL2
    exact ⟨_, rfl, h⟩

section
variable {prog : Program} {w : World} {A : Around} {E : Value → Shared → Prop} {s : Shared}

theorem call_zipM {l1 l2 : Addr} {xs ys : Array Value} {Q : Value → Shared → Prop} (hl1 : s.heap.IsTuple l1 xs) (hl2 : s.heap.IsList l2 ys)
    (h : ∀ h', IsZip h' (s.heap.objs.size + 4) (s.heap.objs.size + 2) (s.heap.objs.size + 3) .none → IsPair h' (s.heap.objs.size + 2) (.ref s.heap.objs.size) (.ref (s.heap.objs.size + 1)) →
      IsPair h' (s.heap.objs.size + 3) .none .none → h'.IsTupleIter s.heap.objs.size l1 0 → h'.IsListIter (s.heap.objs.size + 1) l2 0 → h'.objs.size = s.heap.objs.size + 5 →
      (∀ c o, s.heap.get? c = some o → h'.get? c = some o) → Q (.ref (s.heap.objs.size + 4)) { s with heap := h' }) :
    wpAny (model prog w) A (call (.type "zip") [.ref l1, .ref l2]) Q E s := by
  refine callType_new F.called_zip (by decide) (F.typeCall_zip_2 _ _) (F.newCall_zip_2 _ _) (fun obj => F.args_object_init_3 obj _ _) F.entry_zip_new
    (meets_zipM_new l1 l2 xs ys) ⟨hl1, hl2, ?_⟩
  have z1 : (zmH1 s.heap l1).objs.size = s.heap.objs.size + 1 := Heap.size_push ..
  have z2 : (zmH2 s.heap l1 l2).objs.size = s.heap.objs.size + 2 := by rw [Heap.size_push, z1]
  have z3 : (zmH3 s.heap l1 l2).objs.size = s.heap.objs.size + 3 := by rw [Heap.size_push, z2]
  have z4 : (zmH4 s.heap l1 l2).objs.size = s.heap.objs.size + 4 := by rw [Heap.size_push, z3]
  have z5 : (zmH5 s.heap l1 l2).objs.size = s.heap.objs.size + 5 := by rw [Heap.size_push, z4]
  have g5 : (zmH5 s.heap l1 l2).get? (zmH4 s.heap l1 l2).objs.size = some _ := Heap.get?_push_size _ rfl
  have g4 : (zmH5 s.heap l1 l2).get? (zmH3 s.heap l1 l2).objs.size = some _ := Heap.get?_push_of_some _ (Heap.get?_push_size _ rfl)
  have g3 : (zmH5 s.heap l1 l2).get? (zmH2 s.heap l1 l2).objs.size = some _ := Heap.get?_push_of_some _ (Heap.get?_push_of_some _ (Heap.get?_push_size _ rfl))
  have g2 : (zmH5 s.heap l1 l2).get? (zmH1 s.heap l1).objs.size = some _ := Heap.get?_push_of_some _ (Heap.get?_push_of_some _ (Heap.get?_push_of_some _ (Heap.get?_push_size _ rfl)))
  have g1 : (zmH5 s.heap l1 l2).get? s.heap.objs.size = some _ := Heap.get?_push_of_some _ (Heap.get?_push_of_some _ (Heap.get?_push_of_some _ (Heap.get?_push_of_some _ (Heap.get?_push_size _ rfl))))
  show _ ∧ _
  rw [z2, z3, z4] at g5
  rw [z1, z2] at g3
  rw [z3] at g4
  rw [z1] at g2
  rw [z4]
  exact ⟨⟨_, g5, rfl⟩, h _ g5 g3 g4 ⟨_, g1, rfl, rfl⟩ ⟨_, g2, rfl, rfl⟩ z5 fun c o x =>
    Heap.get?_push_of_some _ (Heap.get?_push_of_some _ (Heap.get?_push_of_some _ (Heap.get?_push_of_some _ (Heap.get?_push_of_some _ x))))⟩
end
open PySem PySem.Spec PyProof.Rows L2
/-- the tuples at a and b as they stand at each turn, the items in new pairs -/
def ItzM (K : PySem.W.Frag) (a b : Addr) : It :=
  ⟨fun i H => ∃ (xs ys : List V) (x y : V), SqT K H a xs ∧ SqL K H b ys ∧ xs[i]? = some x ∧ ys[i]? = some y,
    fun i H v H' => ∃ T x y, v = .ref T ∧ H T = none ∧ H' = upd H T (.tup [x, y]) ∧ (∀ xs, SqT K H a xs → xs[i]? = some x) ∧ ∀ ys, SqL K H b ys → ys[i]? = some y,
    fun i H => ∃ xs ys : List V, SqT K H a xs ∧ SqL K H b ys ∧ (xs.length ≤ i ∨ ys.length ≤ i)⟩
theorem turn_zipM {P : Program} {w : World} {K : PySem.W.Frag} {elts : List Expr} {kk : Nat} {tpos : Pos} {a b z TI TO i1 i2 : Addr} (D : ZipApart z TI TO i1 i2 a b) :
    Turn P w K (.Tuple elts kk tpos) (ItzM K a b) [z, TI, TO, i1, i2] z (fun i h => IsZip h z TI TO .none ∧ IsPair h TI (.ref i1) (.ref i2) ∧ (∃ x y, IsPair h TO x y) ∧ h.IsTupleIter i1 a i ∧ h.IsListIter i2 b i) where
  mem := by simp
  obj := fun i h st c hc => by
    obtain ⟨hz, hTI, ⟨x, y, hTO⟩, ⟨o1, e1, _, d1⟩, ⟨o2, e2, _, d2⟩⟩ := st
    have e' : c = z ∨ c = TI ∨ c = TO ∨ c = i1 ∨ c = i2 := by simpa using hc
    rcases e' with q | q | q | q | q
    · rw [q]; exact ⟨_, hz, fun v q => nomatch q⟩
    · rw [q]; exact ⟨_, hTI, fun v q => nomatch q⟩
    · rw [q]; exact ⟨_, hTO, fun v q => nomatch q⟩
    · rw [q]; exact ⟨o1, e1, fun v q => by rw [d1] at q; cases q⟩
    · rw [q]; exact ⟨o2, e2, fun v q => by rw [d2] at q; cases q⟩
  keep := fun i h h' st k => by
    obtain ⟨hz, hTI, ⟨x, y, hTO⟩, h1, h2⟩ := st
    exact ⟨k z (by simp) _ hz, k TI (by simp) _ hTI, ⟨x, y, k TO (by simp) _ hTO⟩, h1.at fun o q => k i1 (by simp) o q, h2.at fun o q => k i2 (by simp) o q⟩
  item := by
    intro X hP hw hK hc i pins s σ H E I hf st hg
    subst hP hw hK
    obtain ⟨hz, hTI, ⟨x0, y0, hTO⟩, h1, h2⟩ := st
    obtain ⟨xs, ys, x, y, hqx, hqy, hx, hy⟩ := hg
    obtain ⟨its, rv, p, _⟩ := I.tuple hqx
    obtain ⟨its2, rv2, p2, _⟩ := I.list hqy
    obtain ⟨u, hu, ru⟩ := rv.get hx
    obtain ⟨u2, hu2, ru2⟩ := rv2.get hy
    have hzl : z < s.heap.objs.size := Heap.lt_size hz
    refine pyNext_zipM_item D hz hTI hTO h1 h2 p p2.isList (x := u) (y := u2) (by simpa using hu) (by simpa using hu2) fun h' z' TO' h1' h2' hT hsz hk => ?_
    refine ⟨_, rfl, wpAny_letOwnedTupleGo_zip (s := { s with heap := h' }) z' fun h'' z'' sb => ?_⟩
    have hT2 : h''.get? s.heap.objs.size = some { cls := .type "tuple", data := .seq #[u, u2] } := (sb.2 _ (Nat.ne_of_gt hzl)).trans hT
    have new : ObjOk X.prog X.w (upd H s.heap.objs.size (.tup [x, y])) h'' s.heap.objs.size (.tup [x, y]) :=
      ⟨by show 2 ≤ sizeLine; decide, [u, u2], .cons ru (.cons ru2 .nil), ⟨_, hT2, rfl, _, rfl⟩⟩
    have I1 : Inv X pins σ (upd H s.heap.objs.size (.tup [x, y])) { s with heap := h'' } :=
      I.turnedNew (t' := s.toks) (ch := [z, TI, TO, i1, i2]) (fun c o hb q => (sb.2 c (fun q' => hb (by simp [q']))).trans (hk c o (fun q' => hb (by simp [q'])) (fun q' => hb (by simp [q'])) (fun q' => hb (by simp [q'])) (fun q' => hb (by simp [q'])) q)) hf (Nat.le_refl _) new
    refine ⟨.ref s.heap.objs.size, _, I1, rfl, ⟨_, x, y, rfl, I.hok.fresh (Nat.le_refl _), rfl, fun l hl => by rw [I.tuple_inj hl hqx]; exact hx, fun l hl => by rw [I.list_inj hl hqy]; exact hy⟩, ⟨z'', ?_, ⟨u, u2, ?_⟩, ?_, ?_⟩, fun c hcm => ?_⟩
    · exact (sb.2 _ D.TIz).trans (hk _ _ D.TIz D.TITO D.TIi1 D.TIi2 hTI)
    · exact (sb.2 _ D.TOz).trans TO'
    · exact h1'.at fun o q => (sb.2 _ D.i1z).trans q
    · exact h2'.at fun o q => (sb.2 _ D.i2z).trans q
    · have hlt : c < s.heap.objs.size := by
        have e' : c = z ∨ c = TI ∨ c = TO ∨ c = i1 ∨ c = i2 := by simpa using hcm
        rcases e' with q | q | q | q | q
        · rw [q]; exact hzl
        · rw [q]; exact Heap.lt_size hTI
        · rw [q]; exact Heap.lt_size hTO
        · rw [q]; obtain ⟨_, e1, _⟩ := h1; exact Heap.lt_size e1
        · rw [q]; obtain ⟨_, e2, _⟩ := h2; exact Heap.lt_size e2
      rw [upd_ne (Nat.ne_of_lt hlt)]
      exact (hf c hcm).1
  done := by
    intro X hP hw hK hc i pins s σ H E I hf st hg
    subst hP hw hK
    obtain ⟨hz, hTI, ⟨x0, y0, hTO⟩, h1, h2⟩ := st
    obtain ⟨xs, ys, hqx, hqy, hend⟩ := hg
    obtain ⟨its, rv, p, _⟩ := I.tuple hqx
    obtain ⟨its2, rv2, p2, _⟩ := I.list hqy
    have l1 := rv.length
    have l2 := rv2.length
    have he : its.toArray[i]? = none ∨ its2.toArray[i]? = none := by
      rcases hend with q | q
      · exact .inl (by simp; omega)
      · exact .inr (by simp; omega)
    exact pyNext_zipM_end (I.ok.hd hc) D hz hTI hTO h1 h2 p p2.isList he fun h' hk => ⟨rfl, I.turnedL (t' := s.toks) (ch := [z, TI, TO, i1, i2]) (fun c o hb q =>
      hk c o (fun q' => hb (by simp [q'])) (fun q' => hb (by simp [q'])) (fun q' => hb (by simp [q'])) (fun q' => hb (by simp [q'])) q) hf⟩
  self := fun A i s Q E st h => wpAny_pyIter_zip st.1 h

def iZipB (K : PySem.W.Frag) (ta : TA) : TI := fun σ H R => ta σ H fun vs H1 => ∃ a b xs ys, vs = [.ref a, .ref b] ∧ ((SqL K H1 a xs ∧ SqL K H1 b ys ∧ R (Itz K a b) H1) ∨ (SqT K H1 a xs ∧ SqT K H1 b ys ∧ R (ItzT K a b) H1) ∨ (SqT K H1 a xs ∧ SqL K H1 b ys ∧ R (ItzM K a b) H1))
theorem pi_zipB {X : Cx} {e e2 : Expr} {ta : TA} {p pos tpos : Pos} {elts : List Expr} {kk : Nat} (hg : Gl X "zip") (hm : X.mg "zip" = none) (ha : PA X [e, e2] ta)
    (hs : starEach [e, e2] X.env = (false, eval e X.env) :: starEach [e2] X.env := by rfl) (hpl : (backTo pos (starEach [e2] X.env)).any (·.1) = false := by rfl) :
    PI X (.Tuple elts kk tpos) (.Call (.Name "zip" p) [e, e2] [] pos) (iZipB X.K ta) := by
  refine ⟨fun pins s σ H R I h => ?_⟩
  refine Call_ (ld_blt I hg hm PyProof.Rows.boot_zip (PyProof.Rows.callWith_type1 (thn (ha.run pos pins s σ H _ I h) fun us s1 ⟨vs, H1, I1, r1, q1⟩ => ?_) hs hpl))
  obtain ⟨a, b, xs, ys, ex, q1⟩ := q1
  subst ex
  cases r1 with
  | cons r rr =>
    cases rr with
    | cons r' rr =>
      cases rr
      cases r
      cases r'
      have fresh5 : ∀ c, c ∈ [s1.heap.objs.size + 4, s1.heap.objs.size + 2, s1.heap.objs.size + 3, s1.heap.objs.size, s1.heap.objs.size + 1] → FpOk X pins H1 c := fun c hcm => by
        have e' : c = s1.heap.objs.size + 4 ∨ c = s1.heap.objs.size + 2 ∨ c = s1.heap.objs.size + 3 ∨ c = s1.heap.objs.size ∨ c = s1.heap.objs.size + 1 := by simpa using hcm
        have hle : s1.heap.objs.size ≤ c := by
          rcases e' with z | z | z | z | z
          · rw [z]; exact Nat.le_add_right _ _
          · rw [z]; exact Nat.le_add_right _ _
          · rw [z]; exact Nat.le_add_right _ _
          · rw [z]; exact Nat.le_refl _
          · rw [z]; exact Nat.le_add_right _ _
        exact I1.fpOk hle (I1.hok.fresh hle)
      rcases q1 with ⟨hqx, hqy, q⟩ | ⟨hqx, hqy, q⟩ | ⟨hqx, hqy, q⟩
      · obtain ⟨its, rv, p1, _⟩ := I1.list hqx
        obtain ⟨its2, rv2, p2, _⟩ := I1.list hqy
        refine call_zip_2 p1.isList p2.isList fun h' hz hTI hTO h1 h2 hsz hk => wpAny_pyIter_zip hz ?_
        have I2 : Inv X pins σ H1 { s1 with heap := h' } := I1.kept (t' := s1.toks) hk
        exact ⟨s1.heap.objs.size + 4, [s1.heap.objs.size + 4, s1.heap.objs.size + 2, s1.heap.objs.size + 3, s1.heap.objs.size, s1.heap.objs.size + 1], _, _, H1, rfl, I2, turn_zip (PySem.W.ktu_apart s1.heap.objs.size a b p1.lt p2.lt), ⟨hz, hTI, ⟨_, _, hTO⟩, h1, h2⟩, fresh5, q⟩
      · obtain ⟨its, rv, p1, _⟩ := I1.tuple hqx
        obtain ⟨its2, rv2, p2, _⟩ := I1.tuple hqy
        obtain ⟨o1, ho1, _⟩ := id p1
        obtain ⟨o2, ho2, _⟩ := id p2
        refine call_zipT (show s1.heap.IsTuple a its.toArray from p1) (show s1.heap.IsTuple b its2.toArray from p2) fun h' hz hTI hTO h1 h2 hsz hk => wpAny_pyIter_zip hz ?_
        have I2 : Inv X pins σ H1 { s1 with heap := h' } := I1.kept (t' := s1.toks) hk
        exact ⟨s1.heap.objs.size + 4, [s1.heap.objs.size + 4, s1.heap.objs.size + 2, s1.heap.objs.size + 3, s1.heap.objs.size, s1.heap.objs.size + 1], _, _, H1, rfl, I2, turn_zipT (PySem.W.ktu_apart s1.heap.objs.size a b (Heap.lt_size ho1) (Heap.lt_size ho2)), ⟨hz, hTI, ⟨_, _, hTO⟩, h1, h2⟩, fresh5, q⟩
      · obtain ⟨its, rv, p1, _⟩ := I1.tuple hqx
        obtain ⟨its2, rv2, p2, _⟩ := I1.list hqy
        obtain ⟨o1, ho1, _⟩ := id p1
        refine call_zipM (show s1.heap.IsTuple a its.toArray from p1) p2.isList fun h' hz hTI hTO h1 h2 hsz hk => wpAny_pyIter_zip hz ?_
        have I2 : Inv X pins σ H1 { s1 with heap := h' } := I1.kept (t' := s1.toks) hk
        exact ⟨s1.heap.objs.size + 4, [s1.heap.objs.size + 4, s1.heap.objs.size + 2, s1.heap.objs.size + 3, s1.heap.objs.size, s1.heap.objs.size + 1], _, _, H1, rfl, I2, turn_zipM (PySem.W.ktu_apart s1.heap.objs.size a b (Heap.lt_size ho1) p2.lt), ⟨hz, hTI, ⟨_, _, hTO⟩, h1, h2⟩, fresh5, q⟩
end RZ

end
section
/-! Ev 10: what is walked. -/
namespace Ev
open PySem PySem.Spec PyProof.Rows L2

/-- what stays as it was: data, and sequences that are no open lists -/
structure Rch (K : KW) (H : Hp) (ex : List Addr) (H1 : Hp) (ex1 : List Addr) : Prop where
  rp : ∀ v d, Rp K H ex v d → Rp K H1 ex1 v d
  lst : ∀ a vs, H a = some (.lst vs) → a ∉ ex → H1 a = some (.lst vs)
  tup : ∀ a vs, SqT K H a vs → SqT K H1 a vs
  scr : ∀ a ns, ScrAt K H a ns → ScrAt K H1 a ns
theorem Rch.trans {K : KW} {H H1 H2 : Hp} {ex ex1 ex2 : List Addr} (h : Rch K H ex H1 ex1) (hx : ∀ a vs, H1 a = some (.lst vs) → H a = some (.lst vs) → a ∉ ex → a ∉ ex1) (k : Rch K H1 ex1 H2 ex2) : Rch K H ex H2 ex2 :=
  ⟨fun v d r => k.rp v d (h.rp v d r), fun a vs e n => k.lst a vs (h.lst a vs e n) (hx a vs (h.lst a vs e n) e n), fun a vs r => k.tup a vs (h.tup a vs r), fun a ns r => k.scr a ns (h.scr a ns r)⟩
theorem Ext.rch {K : KW} {bs : List Nat} {ex ex1 : List Addr} {bt bt1 : Bt} {st : Store} {H H1 : Hp} (S : SRel K bs ex bt st H) (E : Ext ex bt H ex1 bt1 H1) : Rch K H ex H1 ex1 :=
  ⟨fun _ _ r => Rp.ext S E r, fun _ _ e n => E.keep _ _ e fun q => n (S.live _ q), fun _ _ r => sqT_ext S E r, fun _ _ r => r.ext S E⟩
theorem Rch.rps {K : KW} {H H1 : Hp} {ex ex1 : List Addr} (h : Rch K H ex H1 ex1) : ∀ {vs : List V} {ds : List P}, Rps K H ex vs ds → Rps K H1 ex1 vs ds
  | _, _, .nil => .nil
  | _, _, .cons r t => .cons (h.rp _ _ r) (h.rps t)
/-- the iterator gives ps, whatever comes between -/
def ItOk (K : KW) (H : Hp) (ex : List Addr) (bt : Bt) (J : It) (ps : List P) : Prop :=
  ∀ (bs : List Nat) (ex1 : List Addr) (bt1 : Bt) (st1 : Store) (H1 : Hp), SRel K bs ex1 bt1 st1 H1 → Rch K H ex H1 ex1 → ∀ i : Nat,
    (ps.length = i → J.stop i H1) ∧ ∀ p, ps[i]? = some p → J.go i H1 ∧ ∀ x H2, J.yld i H1 x H2 → ∃ ex2 bt2, Ext ex1 bt1 H1 ex2 bt2 H2 ∧ SRel K bs ex2 bt2 st1 H2 ∧ Rp K H2 ex2 x p
section
variable {K : KW} {bs : List Nat} {ex ex1 : List Addr} {bt bt1 : Bt} {st : Store} {H H1 : Hp} {J : It} {ps qs : List P} {a b : Addr} {vs ws : List V}
theorem ItOk.ext (S : SRel K bs ex bt st H) (E : Ext ex bt H ex1 bt1 H1) (h : ItOk K H ex bt J ps) : ItOk K H1 ex1 bt1 J ps :=
  fun bs2 ex2 bt2 st2 H2 S2 E2 => h bs2 ex2 bt2 st2 H2 S2 (Rch.trans (Ext.rch S E) (fun a vs e1 e2 n q => by
    rcases E.exs a q with z | z
    · exact n z
    · rw [e2] at z; cases z) E2)
/-- a sequence that stays -/
def Stay (K : KW) (H : Hp) (ex : List Addr) (bt : Bt) (q : Hp → List V → Prop) (vs : List V) (ps : List P) : Prop :=
  ∀ (bs : List Nat) (ex1 : List Addr) (bt1 : Bt) (st1 : Store) (H1 : Hp), SRel K bs ex1 bt1 st1 H1 → Rch K H ex H1 ex1 → q H1 vs ∧ Rps K H1 ex1 vs ps
theorem stay_lst (S : SRel K bs ex bt st H) (h : H a = some (.lst vs)) (n : a ∉ ex) (r : Rps K H ex vs ps) : Stay K H ex bt (fun H1 ws => SqL K H1 a ws) vs ps :=
  fun bs1 ex1 bt1 st1 H1 S1 E => ⟨SqL.of (E.lst _ _ h n), E.rps r⟩
theorem stay_tup (S : SRel K bs ex bt st H) (h : SqT K H a vs) (r : Rps K H ex vs ps) : Stay K H ex bt (fun H1 ws => SqT K H1 a ws) vs ps :=
  fun bs1 ex1 bt1 st1 H1 S1 E => ⟨E.tup _ _ h, E.rps r⟩
theorem stay_scr {ns : List Int} (S : SRel K bs ex bt st H) (h : ScrAt K H a ns) : Stay K H ex bt (fun H1 ws => SqL K H1 a ws) (ns.map V.int) (ns.map PyData.int) :=
  fun bs1 ex1 bt1 st1 H1 S1 E => ⟨(E.scr _ _ h).sq, Rps.of_ints ns⟩
theorem itok_seq {q : Hp → List V → Prop} {m : Nat} {ix : Nat → Nat} (st0 : Stay K H ex bt q vs ps) (hm : qs.length = m) (hq : ∀ i, i < m → qs[i]? = ps[ix i]?)
    (hg : ∀ i H1, i < m → q H1 vs → J.go i H1) (hs : ∀ i H1, m ≤ i → q H1 vs → J.stop i H1) (hy : ∀ i H1 x H2, J.yld i H1 x H2 → q H1 vs → H2 = H1 ∧ vs[ix i]? = some x) : ItOk K H ex bt J qs := by
  intro bs1 ex1 bt1 st1 H1 S1 E i
  obtain ⟨h1, r1⟩ := st0 bs1 ex1 bt1 st1 H1 S1 E
  refine ⟨fun l => hs i H1 (by omega) h1, fun p hp => ?_⟩
  have hi : i < m := by
    have := (List.getElem?_eq_some_iff.mp hp).1
    omega
  refine ⟨hg i H1 hi h1, fun x H2 y => ?_⟩
  obtain ⟨rfl, hx⟩ := hy i H1 x H2 y h1
  obtain ⟨p', e1, e2⟩ := r1.get hx
  rw [hq i hi, e1] at hp
  cases hp
  exact ⟨ex1, bt1, .refl, S1, e2⟩
theorem Stay.len {q : Hp → List V → Prop} (S : SRel K bs ex bt st H) (h : Stay K H ex bt q vs ps) : vs.length = ps.length := (h bs ex bt st H S (Ext.rch S .refl)).2.length
theorem itok_list (S : SRel K bs ex bt st H) (h : Stay K H ex bt (fun H1 ws => SqL K H1 a ws) vs ps) : ItOk K H ex bt (Itl K a) ps :=
  itok_seq (ix := id) h rfl (fun _ _ => rfl) (fun i H1 hi q => ⟨vs, _, q, List.getElem?_eq_getElem (by rw [h.len S]; exact hi)⟩) (fun i H1 hi q => ⟨vs, q, by rw [h.len S]; exact hi⟩) fun i H1 x H2 y q => ⟨y.1, y.2 vs q⟩
theorem itok_tup (S : SRel K bs ex bt st H) (h : Stay K H ex bt (fun H1 ws => SqT K H1 a ws) vs ps) : ItOk K H ex bt (Itt K a) ps :=
  itok_seq (ix := id) h rfl (fun _ _ => rfl) (fun i H1 hi q => ⟨vs, _, q, List.getElem?_eq_getElem (by rw [h.len S]; exact hi)⟩) (fun i H1 hi q => ⟨vs, q, by rw [h.len S]; exact hi⟩) fun i H1 x H2 y q => ⟨y.1, y.2 vs q⟩
theorem rev_get {α : Type} (xs : List α) (i : Nat) (h : i < xs.length) : xs.reverse[i]? = xs[xs.length - 1 - i]? := List.getElem?_reverse h
theorem itok_revL (S : SRel K bs ex bt st H) (h : Stay K H ex bt (fun H1 ws => SqL K H1 a ws) vs ps) : ItOk K H ex bt (Itv K a vs.length) ps.reverse := by
  have l := h.len S
  refine itok_seq (m := ps.length) (ix := fun i => ps.length - 1 - i) h List.length_reverse (fun i hi => rev_get _ _ hi) (fun i H1 hi q => ⟨by omega, vs, _, q, List.getElem?_eq_getElem (by omega)⟩) (fun i H1 hi q => ?_) fun i H1 x H2 y q => ⟨y.1, ?_⟩
  · show vs.length ≤ i
    omega
  · have z := y.2 vs q
    rw [l] at z
    exact z
theorem itok_revT (S : SRel K bs ex bt st H) (h : Stay K H ex bt (fun H1 ws => SqT K H1 a ws) vs ps) : ItOk K H ex bt (RT.ItvT K a vs.length) ps.reverse := by
  have l := h.len S
  refine itok_seq (m := ps.length) (ix := fun i => ps.length - 1 - i) h List.length_reverse (fun i hi => rev_get _ _ hi) (fun i H1 hi q => ⟨by omega, vs, _, q, List.getElem?_eq_getElem (by omega)⟩) (fun i H1 hi q => ?_) fun i H1 x H2 y q => ⟨y.1, ?_⟩
  · show vs.length ≤ i
    omega
  · have z := y.2 vs q
    rw [l] at z
    exact z
theorem rng_get (lo : Int) (n i : Nat) : (rngI lo n)[i]? = if i < n then some (.int (lo + (i : Int))) else none := by
  unfold rngI
  rw [List.getElem?_map]
  by_cases h : i < n
  · rw [List.getElem?_range h, if_pos h]; rfl
  · rw [List.getElem?_eq_none (by rw [List.length_range]; omega), if_neg h]; rfl
theorem rng_len (lo : Int) (n : Nat) : (rngI lo n).length = n := by unfold rngI; rw [List.length_map, List.length_range]
theorem itok_rng (lo : Int) (n : Nat) : ItOk K H ex bt (Itr lo n) (rngI lo n) := by
  intro bs1 ex1 bt1 st1 H1 S1 E i
  refine ⟨fun l => ?_, fun p hp => ?_⟩
  · rw [rng_len] at l; exact Nat.le_of_eq l
  · rw [rng_get] at hp
    split at hp
    · rename_i hi
      cases hp
      refine ⟨hi, fun x H2 y => ?_⟩
      obtain ⟨rfl, rfl⟩ := y
      exact ⟨ex1, bt1, .refl, S1, .int _⟩
    · cases hp
theorem itok_str (x : Str) : ItOk K H ex bt (Its x) (x.cps.toList.map fun c => PyData.str ⟨#[c]⟩) := by
  intro bs1 ex1 bt1 st1 H1 S1 E i
  refine ⟨fun l => ?_, fun p hp => ?_⟩
  · rw [List.length_map, Array.length_toList] at l; exact Nat.le_of_eq l
  · rw [List.getElem?_map, Array.getElem?_toList] at hp
    obtain ⟨c, h1, h2⟩ := Option.map_eq_some_iff.mp hp
    subst h2
    refine ⟨(Array.getElem?_eq_some_iff.mp h1).1, fun v H2 y => ?_⟩
    obtain ⟨rfl, c', h3, rfl⟩ := y
    rw [h1] at h3; cases h3
    exact ⟨ex1, bt1, .refl, S1, .str _⟩
/-- a new tuple each turn -/
theorem itok_new {m : Nat} (hl : qs.length = m) (hs : ∀ (bs1 : List Nat) (ex1 : List Addr) (bt1 : Bt) (st1 : Store) (H1 : Hp), SRel K bs1 ex1 bt1 st1 H1 → Rch K H ex H1 ex1 → ∀ i : Nat,
      (m = i → J.stop i H1) ∧ (i < m → J.go i H1 ∧ ∀ x H2, J.yld i H1 x H2 → ∃ T us rs, x = .ref T ∧ H1 T = none ∧ H2 = upd H1 T (.tup us) ∧ qs[i]? = some (.tuple rs) ∧ Rps K H1 ex1 us rs)) : ItOk K H ex bt J qs := by
  intro bs1 ex1 bt1 st1 H1 S1 E i
  obtain ⟨h1, h2⟩ := hs bs1 ex1 bt1 st1 H1 S1 E i
  refine ⟨fun l => h1 (by omega), fun p hp => ?_⟩
  obtain ⟨h3, h4⟩ := h2 (by have := (List.getElem?_eq_some_iff.mp hp).1; omega)
  refine ⟨h3, fun x H2 y => ?_⟩
  obtain ⟨T, us, rs, rfl, hn, rfl, hq, r⟩ := h4 x H2 y
  rw [hq] at hp; cases hp
  exact ⟨ex1, bt1, Ext.alloc hn, S1.alloc hn, Rp.newTup S1 hn r⟩
theorem enum_len : ∀ (xs : List P) (n : Nat), (enumL n xs).length = xs.length
  | [], _ => rfl
  | _ :: xs, n => congrArg (· + 1) (enum_len xs (n + 1))
theorem enum_get : ∀ (xs : List P) (n i : Nat), (enumL n xs)[i]? = xs[i]?.map fun x => .tuple [.int ((n + i : Nat) : Int), x]
  | [], _, _ => rfl
  | x :: xs, n, 0 => rfl
  | x :: xs, n, i + 1 => by
    show (enumL (n + 1) xs)[i]? = xs[i]?.map _
    rw [enum_get xs (n + 1) i]
    congr 1
    funext y
    rw [show n + 1 + i = n + (i + 1) by omega]
theorem itok_enum (S : SRel K bs ex bt st H) (h : Stay K H ex bt (fun H1 ws => SqL K H1 a ws) vs ps) : ItOk K H ex bt (Ite K a) (enumL 0 ps) := by
  have l := h.len S
  refine itok_new (m := ps.length) (enum_len ps 0) fun bs1 ex1 bt1 st1 H1 S1 E i => ?_
  obtain ⟨q, r⟩ := h bs1 ex1 bt1 st1 H1 S1 E
  refine ⟨fun hi => ⟨vs, q, by omega⟩, fun hi => ⟨⟨vs, _, q, List.getElem?_eq_getElem (by omega)⟩, fun x H2 y => ?_⟩⟩
  obtain ⟨T, z, rfl, hn, rfl, hz⟩ := y
  obtain ⟨p, e1, e2⟩ := r.get (hz vs q)
  refine ⟨T, _, [.int (i : Nat), p], rfl, hn, rfl, ?_, .cons (.int _) (.cons e2 .nil)⟩
  rw [enum_get, e1, Nat.zero_add]; rfl
theorem zip_len (xs ys : List P) : (zipL xs ys).length = min xs.length ys.length := List.length_zipWith
theorem zip_get {xs ys : List P} {i : Nat} {x y : P} (h1 : xs[i]? = some x) (h2 : ys[i]? = some y) : (zipL xs ys)[i]? = some (.tuple [x, y]) := by
  unfold zipL
  rw [List.getElem?_zipWith, h1, h2]
theorem itok_zip {rs : List P} (S : SRel K bs ex bt st H) (h : Stay K H ex bt (fun H1 us => SqL K H1 a us) vs ps) (h' : Stay K H ex bt (fun H1 us => SqL K H1 b us) ws rs) : ItOk K H ex bt (Itz K a b) (zipL ps rs) := by
  have l := h.len S
  have l' := h'.len S
  refine itok_new (m := min ps.length rs.length) (zip_len _ _) fun bs1 ex1 bt1 st1 H1 S1 E i => ?_
  obtain ⟨q, r⟩ := h bs1 ex1 bt1 st1 H1 S1 E
  obtain ⟨q', r'⟩ := h' bs1 ex1 bt1 st1 H1 S1 E
  refine ⟨fun hi => ⟨vs, ws, q, q', by omega⟩, fun hi => ⟨⟨vs, ws, _, _, q, q', List.getElem?_eq_getElem (by omega), List.getElem?_eq_getElem (by omega)⟩, fun x H2 y => ?_⟩⟩
  obtain ⟨T, z, z', rfl, hn, rfl, hz, hz'⟩ := y
  obtain ⟨p, e1, e2⟩ := r.get (hz vs q)
  obtain ⟨p', e1', e2'⟩ := r'.get (hz' ws q')
  exact ⟨T, _, [p, p'], rfl, hn, rfl, zip_get e1 e1', .cons e2 (.cons e2' .nil)⟩
theorem itok_zipT {rs : List P} (S : SRel K bs ex bt st H) (h : Stay K H ex bt (fun H1 us => SqT K H1 a us) vs ps) (h' : Stay K H ex bt (fun H1 us => SqT K H1 b us) ws rs) : ItOk K H ex bt (RZ.ItzT K a b) (zipL ps rs) := by
  have l := h.len S
  have l' := h'.len S
  refine itok_new (m := min ps.length rs.length) (zip_len _ _) fun bs1 ex1 bt1 st1 H1 S1 E i => ?_
  obtain ⟨q, r⟩ := h bs1 ex1 bt1 st1 H1 S1 E
  obtain ⟨q', r'⟩ := h' bs1 ex1 bt1 st1 H1 S1 E
  refine ⟨fun hi => ⟨vs, ws, q, q', by omega⟩, fun hi => ⟨⟨vs, ws, _, _, q, q', List.getElem?_eq_getElem (by omega), List.getElem?_eq_getElem (by omega)⟩, fun x H2 y => ?_⟩⟩
  obtain ⟨T, z, z', rfl, hn, rfl, hz, hz'⟩ := y
  obtain ⟨p, e1, e2⟩ := r.get (hz vs q)
  obtain ⟨p', e1', e2'⟩ := r'.get (hz' ws q')
  exact ⟨T, _, [p, p'], rfl, hn, rfl, zip_get e1 e1', .cons e2 (.cons e2' .nil)⟩
theorem itok_zipM {rs : List P} (S : SRel K bs ex bt st H) (h : Stay K H ex bt (fun H1 us => SqT K H1 a us) vs ps) (h' : Stay K H ex bt (fun H1 us => SqL K H1 b us) ws rs) : ItOk K H ex bt (RZ.ItzM K a b) (zipL ps rs) := by
  have l := h.len S
  have l' := h'.len S
  refine itok_new (m := min ps.length rs.length) (zip_len _ _) fun bs1 ex1 bt1 st1 H1 S1 E i => ?_
  obtain ⟨q, r⟩ := h bs1 ex1 bt1 st1 H1 S1 E
  obtain ⟨q', r'⟩ := h' bs1 ex1 bt1 st1 H1 S1 E
  refine ⟨fun hi => ⟨vs, ws, q, q', by omega⟩, fun hi => ⟨⟨vs, ws, _, _, q, q', List.getElem?_eq_getElem (by omega), List.getElem?_eq_getElem (by omega)⟩, fun x H2 y => ?_⟩⟩
  obtain ⟨T, z, z', rfl, hn, rfl, hz, hz'⟩ := y
  obtain ⟨p, e1, e2⟩ := r.get (hz vs q)
  obtain ⟨p', e1', e2'⟩ := r'.get (hz' ws q')
  exact ⟨T, _, [p, p'], rfl, hn, rfl, zip_get e1 e1', .cons e2 (.cons e2' .nil)⟩
end

/-! ### the rules -/
section
variable {X : Cx} {XR : Nat → Option P → XK → Hp → Prop} {bs : List Nat} {W : WX} {a b e tg : Expr} {es : List Expr} {pos p : Pos} {ma mb : Env → M D}
abbrev rI (X : Cx) (XR : Nat → Option P → XK → Hp → Prop) (bs : List Nat) (W : WX) (m : Env → M (List P)) : TI := fun σ H R =>
  ∃ ex bt st env, SRel (kw X) bs ex bt st H ∧ EnvR (kw X) H ex bt env σ ∧ Cont (kw X) XR bs (fun c d H => W c d σ H) (ItOk (kw X)) ex bt H (m env st) R
theorem _root_.L2.PI.imp {X : Cx} {tg e : Expr} {t t' : TI} (h : PI X tg e t) (i : ∀ σ H Q, t' σ H Q → t σ H Q) : PI X tg e t' := ⟨fun pins s σ H Q I q => h.run pins s σ H Q I (i σ H Q q)⟩
/-- lists, tuples, texts -/
def iAny (K : PySem.W.Frag) (te : TE) : TI := fun σ H R => te σ H fun x H1 => (∃ a, x = .ref a ∧ (∃ xs, SqL K H1 a xs) ∧ R (Itl K a) H1) ∨ (∃ a, x = .ref a ∧ (∃ xs, SqT K H1 a xs) ∧ R (Itt K a) H1) ∨ ∃ t, x = .str t ∧ R (Its t) H1
theorem pi_any {te : TE} (he : PE X e te) : PI X tg e (iAny X.K te) := by
  constructor
  intro pins s σ H R I h
  refine thn (he.run pins s σ H _ I h) ?_
  rintro v s1 ⟨x, H1, I1, r1, q1⟩
  rcases q1 with ⟨a, rfl, ⟨xs, hq⟩, q⟩ | ⟨a, rfl, ⟨xs, hq⟩, q⟩ | ⟨t, rfl, q⟩
  · obtain rfl : v = Value.ref a := r1
    have ⟨its, rv, p1, _⟩ := I1.list hq
    exact wpAny_pyIter_list p1.isList (pi_one I1 _ (turn_list a _) ⟨_, Heap.get?_push_size _ rfl, rfl, rfl⟩ q)
  · obtain rfl : v = Value.ref a := r1
    have ⟨its, rv, p1, _⟩ := I1.tuple hq
    exact wpAny_pyIter_tuple (show s1.heap.IsTuple a its.toArray from p1) (pi_one I1 _ (turn_tuple a _) ⟨_, Heap.get?_push_size _ rfl, rfl, rfl⟩ q)
  · obtain ⟨k, rfl⟩ := r1
    by_cases hk : t.cps.all (· < 128) = true
    · exact wpAny_pyIter_ascii hk (pi_one I1 _ (turn_str _ t k _ (.inl rfl)) ⟨_, Heap.get?_push_size _ rfl, rfl, rfl⟩ q)
    · exact wpAny_pyIter_wide (Bool.not_eq_true _ ▸ hk) (pi_one I1 _ (turn_str _ t k _ (.inr rfl)) ⟨_, Heap.get?_push_size _ rfl, rfl, rfl⟩ q)
theorem Cont.itv {K : KW} {Y : XK} {ex : List Addr} {bt : Bt} {H : Hp} {st : Store} {J : It} {ps : List P} {R : It → Hp → Prop} (S : SRel K bs ex bt st H) (h : Cont K XR bs Y (ItOk K) ex bt H (M.ret ps st) R) (r : ItOk K H ex bt J ps) : R J H := h J H ex bt .refl S r
theorem sndI_e (he : PE X e (rE X XR bs W ma)) : PI X tg e (rI X XR bs W fun σ => (ma σ).bnd fun x => (match x with
    | .loc _ => M.bad
    | _ => view x).bnd fun p => M.opt (items p)) := by
  refine (pi_any he).imp fun σ H R ⟨ex, bt, st, env, S, V, C⟩ => ⟨ex, bt, st, env, S, V, (Cont.bnd S C).mono fun x H1 ⟨d, ex1, bt1, st1, E1, S1, R1, C1⟩ => ?_⟩
  cases d with
  | p d =>
    have C2 : Cont (kw X) XR bs (fun c d H => W c d σ H) (ItOk (kw X)) ex1 bt1 H1 (M.opt (items d) st1) R := C1
    cases R1 with
    | lst h n r => exact .inl ⟨_, rfl, ⟨_, SqL.of h⟩, Cont.itv S1 C2 (itok_list S1 (stay_lst S1 h n r))⟩
    | tup h r => exact .inr (.inl ⟨_, rfl, ⟨_, h⟩, Cont.itv S1 C2 (itok_tup S1 (stay_tup S1 h r))⟩)
    | str t => exact .inr (.inr ⟨t, rfl, Cont.itv S1 C2 (itok_str t)⟩)
    | _ => exact (show False from C2).elim
  | scr ns =>
    have C2 : Cont (kw X) XR bs (fun c d H => W c d σ H) (ItOk (kw X)) ex1 bt1 H1 (M.ret (ns.map PyData.int) st1) R := C1
    obtain ⟨a, rfl, h⟩ := R1
    exact .inl ⟨a, rfl, ⟨_, h.sq⟩, Cont.itv S1 C2 (itok_list S1 (stay_scr S1 h))⟩
  | _ => exact (show False from C1).elim
theorem sndI_rng1 (hg : Gl X "range") (hm : X.mg "range" = none) (ha : PE X a (rE X XR bs W ma)) (hs : starEach (a :: []) X.env = (false, eval a X.env) :: starEach [] X.env) (hs' : starEach [a] X.env = [(false, eval a X.env)]) :
    PI X tg (.Call (.Name "range" p) [a] [] pos) (rI X XR bs W fun σ => (ma σ).bnd fun x => match x with
    | .p (.int j) => if rngOk j then M.ret (rngI 0 j.toNat) else M.bad
    | _ => M.bad) := by
  refine (pi_range1 hg hm (pa_cons ha pa_nil hs) hs').imp fun σ H R ⟨ex, bt, st, env, S, V, C⟩ => ⟨ex, bt, st, env, S, V, (Cont.bnd S C).mono fun x H1 ⟨d, ex1, bt1, st1, E1, S1, R1, C1⟩ => ?_⟩
  split at C1
  · rename_i j
    split at C1
    · rename_i hj
      unfold rngOk at hj
      simp only [Bool.and_eq_true, decide_eq_true_eq] at hj
      cases R1
      exact ⟨j, rfl, hj.1, hj.2, Cont.itv S1 C1 (itok_rng 0 _)⟩
    · exact (show False from C1).elim
  · exact (show False from C1).elim
theorem sndI_rng2 (hg : Gl X "range") (hm : X.mg "range" = none) (ha : PE X a (rE X XR bs W ma)) (hb : PE X b (rE X XR bs W mb)) (hs0 : starEach (a :: [b]) X.env = (false, eval a X.env) :: starEach [b] X.env) (hs1 : starEach (b :: []) X.env = (false, eval b X.env) :: starEach [] X.env)
    (hs : starEach [a, b] X.env = [(false, eval a X.env), (false, eval b X.env)]) (hs2 : starEach [b] X.env = [(false, eval b X.env)]) :
    PI X tg (.Call (.Name "range" p) [a, b] [] pos) (rI X XR bs W fun σ => (ma σ).bnd fun x => (mb σ).bnd fun y => match x, y with
    | .p (.int i), .p (.int j) => if rngOk i && rngOk j then M.ret (rngI i (j - i).toNat) else M.bad
    | _, _ => M.bad) := by
  refine (pi_range2 hg hm (pa_cons ha (pa_cons hb pa_nil hs1) hs0) hs hs2).imp fun σ H R ⟨ex, bt, st, env, S, V, C⟩ => ⟨ex, bt, st, env, S, V, (Cont.bnd S C).mono fun x H1 ⟨d, ex1, bt1, st1, E1, S1, R1, C1⟩ => ?_⟩
  refine ⟨ex1, bt1, st1, env, S1, V.ext S E1, (Cont.bnd S1 C1).mono fun y H2 ⟨d2, ex2, bt2, st2, E2, S2, R2, C2⟩ => ?_⟩
  have R1' := RpD.ext S1 E2 R1
  split at C2
  · rename_i i j _
    split at C2
    · rename_i hj
      unfold rngOk at hj
      simp only [Bool.and_eq_true, decide_eq_true_eq] at hj
      cases R1'
      cases R2
      exact ⟨i, j, rfl, ⟨hj.1.1, hj.1.2, hj.2.1, hj.2.2⟩, Cont.itv S2 C2 (itok_rng i _)⟩
    · exact (show False from C2).elim
  · exact (show False from C2).elim
theorem sndI_rev (hg : Gl X "reversed") (hm : X.mg "reversed" = none) (ha : PE X a (rE X XR bs W ma)) (hs : starEach [a] X.env = (false, eval a X.env) :: starEach [] X.env) :
    PI X tg (.Call (.Name "reversed" p) [a] [] pos) (rI X XR bs W fun σ => (ma σ).bnd fun x => match x with
    | .p (.list xs) => M.ret xs.reverse
    | .p (.tuple xs) => M.ret xs.reverse
    | _ => M.bad) := by
  refine (RT.pi_revA hg hm ha hs).imp fun σ H R ⟨ex, bt, st, env, S, V, C⟩ => ⟨ex, bt, st, env, S, V, (Cont.bnd S C).mono fun x H1 ⟨d, ex1, bt1, st1, E1, S1, R1, C1⟩ => ?_⟩
  split at C1
  · rename_i ps
    cases R1 with
    | lst h n r =>
      have y := stay_lst S1 h n r
      exact ⟨_, _, rfl, .inl ⟨SqL.of h, Cont.itv S1 C1 (itok_revL S1 y)⟩⟩
  · rename_i ps
    cases R1 with
    | tup h r =>
      have y := stay_tup S1 h r
      exact ⟨_, _, rfl, .inr ⟨h, Cont.itv S1 C1 (itok_revT S1 y)⟩⟩
  · exact (show False from C1).elim
theorem sndI_zip {elts : List Expr} {kk : Nat} {tpos : Pos} (hg : Gl X "zip") (hm : X.mg "zip" = none) (ha : PE X a (rE X XR bs W ma)) (hb : PE X b (rE X XR bs W mb)) (hs0 : starEach (a :: [b]) X.env = (false, eval a X.env) :: starEach [b] X.env) (hs1 : starEach (b :: []) X.env = (false, eval b X.env) :: starEach [] X.env)
    (hpl : (backTo pos (starEach [b] X.env)).any (·.1) = false) :
    PI X (.Tuple elts kk tpos) (.Call (.Name "zip" p) [a, b] [] pos) (rI X XR bs W fun σ => (ma σ).bnd fun x => (mb σ).bnd fun y => match x, y with
    | .p (.list xs), .p (.list ys) => M.ret (zipL xs ys)
    | .p (.tuple xs), .p (.tuple ys) => M.ret (zipL xs ys)
    | .p (.tuple xs), .p (.list ys) => M.ret (zipL xs ys)
    | _, _ => M.bad) := by
  refine (RZ.pi_zipB hg hm (pa_cons ha (pa_cons hb pa_nil hs1) hs0) hs0 hpl).imp fun σ H R ⟨ex, bt, st, env, S, V, C⟩ => ⟨ex, bt, st, env, S, V, (Cont.bnd S C).mono fun x H1 ⟨d, ex1, bt1, st1, E1, S1, R1, C1⟩ => ?_⟩
  refine ⟨ex1, bt1, st1, env, S1, V.ext S E1, (Cont.bnd S1 C1).mono fun y H2 ⟨d2, ex2, bt2, st2, E2, S2, R2, C2⟩ => ?_⟩
  have R1' := RpD.ext S1 E2 R1
  split at C2
  · rename_i xs ys
    cases R1' with
    | lst h n r =>
      cases R2 with
      | lst h' n' r' =>
        have y1 := stay_lst S2 h n r
        have y2 := stay_lst S2 h' n' r'
        exact ⟨_, _, _, _, rfl, .inl ⟨SqL.of h, SqL.of h', Cont.itv S2 C2 (itok_zip S2 y1 y2)⟩⟩
  · rename_i xs ys
    cases R1' with
    | tup h r =>
      cases R2 with
      | tup h' r' =>
        have y1 := stay_tup S2 h r
        have y2 := stay_tup S2 h' r'
        exact ⟨_, _, _, _, rfl, .inr (.inl ⟨h, h', Cont.itv S2 C2 (itok_zipT S2 y1 y2)⟩)⟩
  · rename_i xs ys
    cases R1' with
    | tup h r =>
      cases R2 with
      | lst h' n' r' =>
        have y1 := stay_tup S2 h r
        have y2 := stay_lst S2 h' n' r'
        exact ⟨_, _, _, _, rfl, .inr (.inr ⟨h, SqL.of h', Cont.itv S2 C2 (itok_zipM S2 y1 y2)⟩)⟩
  · exact (show False from C2).elim
end
end Ev

end
section
/-! Ev 11: targets. -/
namespace Ev
open PySem PySem.Spec PyProof.Rows L2
/-- no exception is wanted -/
abbrev noX : Nat → Option P → XK → Hp → Prop := fun _ _ _ _ => False
section
variable {K : KW} {XR XR' : Nat → Option P → XK → Hp → Prop} {Y Y' : XK} {α β ν μ : Type} {R : Hp → List Addr → Bt → ν → α → Prop} {R' : Hp → List Addr → Bt → μ → β → Prop} {bs : List Nat} {ex : List Addr} {bt : Bt} {st : Store} {H : Hp}
theorem Cont.calm {m : M α} {Q : ν → Hp → Prop} (h : Cont K XR bs Y R ex bt H (M.calm m st) Q) : Cont K XR' bs Y' R ex bt H (m st) Q := by
  unfold M.calm at h
  cases e : m st with
  | ok a s => rw [e] at h; exact h
  | exn c v s => rw [e] at h; exact h.elim
  | bad => rw [e] at h; exact h
theorem Cont.quiet {r : Res α} {Q : ν → Hp → Prop} (h : Cont K noX bs Y R ex bt H r Q) : Cont K XR bs Y' R ex bt H r Q := by
  cases r with
  | ok a s => exact h
  | exn c v s => exact fun H' ex' bt' E S => (h H' ex' bt' E S).elim
  | bad => exact h
end
section
variable {X : Cx} {XR : Nat → Option P → XK → Hp → Prop} {bs : List Nat} {W : WX} {a b e tg : Expr} {es : List Expr} {pos p : Pos} {ma mb : Env → M D}
/-- names and their values after a store -/
abbrev EnvOk (K : KW) : Hp → List Addr → Bt → L2.St → Env → Prop := fun H ex bt σ env => EnvR K H ex bt env σ
abbrev rG (X : Cx) (bs : List Nat) (m : Env → D → M Env) : TG := fun v σ H Q =>
  ∃ ex bt st env d, SRel (kw X) bs ex bt st H ∧ EnvR (kw X) H ex bt env σ ∧ RpD (kw X) H ex bt v d ∧ Cont (kw X) noX bs (fun _ _ _ => False) (EnvOk (kw X)) ex bt H (m env d st) fun σ' H' => Q σ' H'
abbrev rGs (X : Cx) (bs : List Nat) (m : Env → List D → M Env) : TGs := fun vs σ H Q =>
  ∃ ex bt st env ds, SRel (kw X) bs ex bt st H ∧ EnvR (kw X) H ex bt env σ ∧ RpDs (kw X) H ex bt vs ds ∧ Cont (kw X) noX bs (fun _ _ _ => False) (EnvOk (kw X)) ex bt H (m env ds st) fun σ' H' => Q σ' H'
theorem _root_.L2.PG.imp {X : Cx} {e : Expr} {t t' : TG} (h : PG X e t) (i : ∀ v σ H Q, t' v σ H Q → t v σ H Q) : PG X e t' := ⟨fun pins s σ H v u Q I r q => h.run pins s σ H v u Q I r (i v σ H Q q)⟩
theorem _root_.L2.PGs.imp {X : Cx} {e : List Expr} {t t' : TGs} (h : PGs X e t) (i : ∀ v σ H Q, t' v σ H Q → t v σ H Q) : PGs X e t' := ⟨fun pins s σ H v u Q I r q => h.run pins s σ H v u Q I r (i v σ H Q q)⟩
theorem Cont.envv {K : KW} {Y : XK} {ex : List Addr} {bt : Bt} {H : Hp} {st : Store} {σ : L2.St} {env : Env} {Q : L2.St → Hp → Prop} (S : SRel K bs ex bt st H) (h : Cont K XR bs Y (EnvOk K) ex bt H (M.ret env st) Q) (r : EnvR K H ex bt env σ) : Q σ H := h σ H ex bt .refl S r
/-- the same; only the slots of ws change -/
abbrev rGw (X : Cx) (bs : List Nat) (ws : List Nat) (m : Env → D → M Env) : TG := fun v σ H Q => rG X bs m v σ H fun σ' H' => wipe σ' ws = wipe σ ws → Q σ' H'
abbrev rGsw (X : Cx) (bs : List Nat) (ws : List Nat) (m : Env → List D → M Env) : TGs := fun vs σ H Q => rGs X bs m vs σ H fun σ' H' => wipe σ' ws = wipe σ ws → Q σ' H'
theorem PG.plain {ws : List Nat} {m : Env → D → M Env} (h : PG X tg (rGw X bs ws m)) : PG X tg (rG X bs m) :=
  h.imp fun v σ H Q ⟨ex, bt, st, env, d, S, V, r, C⟩ => ⟨ex, bt, st, env, d, S, V, r, C.mono fun σ' H' q _ => q⟩
theorem wipe_in {ws : List Nat} {i : Nat} {a : Option L2.V} (h : i ∈ ws) (σ : L2.St) : wipe (σ.set i a) ws = wipe σ ws := by
  induction ws with
  | nil => cases h
  | cons w ws ih =>
    show (wipe (σ.set i a) ws).set w none = (wipe σ ws).set w none
    by_cases q : i ∈ ws
    · rw [ih q]
    · have e : i = w := by
        rcases List.mem_cons.mp h with z | z
        · exact z
        · exact absurd z q
      subst e
      have hh : ∀ (us : List Nat) (σ : L2.St), i ∉ us → wipe (σ.set i a) us = (wipe σ us).set i a := by
        intro us
        induction us with
        | nil => intro σ _; rfl
        | cons u us ih2 =>
          intro σ hu
          show (wipe (σ.set i a) us).set u none = ((wipe σ us).set u none).set i a
          rw [ih2 σ fun z => hu (List.mem_cons_of_mem _ z)]
          exact List.set_comm _ _ fun z => hu (by rw [z]; exact List.mem_cons_self)
      rw [hh ws σ q, List.set_set]
theorem sndG_name {i : Nat} {x : Str} {ws : List Nat} (hN : X.N.Nodup) (hi : X.N[i]? = some x) (hx : Loc X.env.scope x) (hf : X.fn x = true ∨ X.env.scope.names.lookup x = some .local) (hw : i ∈ ws) : PG X (.Name x pos) (rGw X bs ws fun σ d => M.ret (σ.set i (some d))) :=
  (pg_name hN hi hx hf).imp fun v σ H Q ⟨ex, bt, st, env, d, S, V, r, C⟩ => Cont.envv S C (V.set r) (wipe_in hw σ)
theorem sndGs_nil {ws : List Nat} : PGs X [] (rGsw X bs ws fun σ _ => M.ret σ) := by
  refine ⟨fun pins s σ H vs us Q I r ⟨ex, bt, st, env, ds, S, V, rr, C⟩ => ?_⟩
  exact assignInOrder_nil ⟨σ, H, I, Cont.envv S C V rfl⟩
theorem sndGs_cons {ws : List Nat} {m : Env → D → M Env} {ms : Env → List D → M Env} (h1 : PG X e (rGw X bs ws m)) (h2 : PGs X es (rGsw X bs ws ms)) (hs : (assignEach (e :: es) X.env).map (·.2) = assign e X.env :: (assignEach es X.env).map (·.2)) :
    PGs X (e :: es) (rGsw X bs ws fun σ ds => match ds with
    | d :: ds' => (m σ d).bnd fun σ' => ms σ' ds'
    | [] => M.bad) := by
  refine (pgs_cons h1 h2 hs).imp fun vs σ H Q ⟨ex, bt, st, env, ds, S, V, r, C⟩ => ?_
  cases r with
  | nil => exact (show False from C).elim
  | cons r rr =>
    refine ⟨_, _, rfl, ex, bt, st, env, _, S, V, r, (Cont.bnd S C).mono fun σ1 H1 ⟨env1, ex1, bt1, st1, E1, S1, V1, C1⟩ hw1 => ?_⟩
    exact ⟨ex1, bt1, st1, env1, _, S1, V1, RpDs.ext S E1 rr, C1.mono fun σ2 H2 q hw2 => q (hw2.trans hw1)⟩
theorem rpds_p {K : KW} {H : Hp} {ex : List Addr} {bt : Bt} : ∀ {vs : List V} {ps : List P}, Rps K H ex vs ps → RpDs K H ex bt vs (ps.map D.p)
  | _, _, .nil => .nil
  | _, _, .cons r t => .cons r (rpds_p t)
theorem pg_seq {k n : Nat} {t : TGs} (hc : X.calm = true) (h : PGs X es t) (hn : (assignEach es X.env).length = n) (hst : (assignEach es X.env).findIdx? (·.1) = none) :
    PG X (.Tuple es k pos) (fun v σ H Q => gTup X.K n t v σ H Q ∨ gUnl X.K n t v σ H Q) :=
  ⟨fun pins s σ H v u Q I r hw => hw.elim (fun q => (pg_tup hc h hn hst).run pins s σ H v u Q I r q) fun q => (pg_unl hc h hn hst).run pins s σ H v u Q I r q⟩
theorem sndG_tup {k n : Nat} {ws : List Nat} {ms : Env → List D → M Env} (hc : X.calm = true) (h : PGs X es (rGsw X bs ws ms)) (hn : (assignEach es X.env).length = n) (hst : (assignEach es X.env).findIdx? (·.1) = none) :
    PG X (.Tuple es k pos) (rGw X bs ws fun σ d => match d with
    | .p (.tuple xs) => if xs.length = n then ms σ (xs.map D.p) else M.bad
    | .p (.list xs) => if xs.length = n then ms σ (xs.map D.p) else M.bad
    | _ => M.bad) := by
  refine (pg_seq hc h hn hst).imp fun v σ H Q ⟨ex, bt, st, env, d, S, V, r, C⟩ => ?_
  dsimp only at C
  split at C
  · rename_i xs
    split at C
    · rename_i hl
      cases r with
      | tup h1 r1 => exact .inl ⟨_, _, rfl, h1, by rw [r1.length]; exact hl, ex, bt, st, env, _, S, V, rpds_p r1, C⟩
    · exact (show False from C).elim
  · rename_i xs
    split at C
    · rename_i hl
      cases r with
      | lst h1 n1 r1 => exact .inr ⟨_, _, rfl, SqL.of h1, by rw [r1.length]; exact hl, ex, bt, st, env, _, S, V, rpds_p r1, C⟩
    · exact (show False from C).elim
  · exact (show False from C).elim
theorem rpds_set {K : KW} {H : Hp} {ex : List Addr} {bt : Bt} {v : V} {d : D} : ∀ {vs : List V} {ds : List D} (n : Nat), RpDs K H ex bt vs ds → RpD K H ex bt v d → RpDs K H ex bt (vs.set n v) (ds.set n d)
  | _, _, _, .nil, _ => .nil
  | _, _, 0, .cons _ t, q => .cons q t
  | _, _, n + 1, .cons r t, q => .cons r (rpds_set n t q)
theorem ixN_nat {n : Nat} {k : Int} (h0 : 0 ≤ k) (h1 : k < n) : ixN n k = some k.toNat := by
  unfold ixN
  simp only [h0, h1, if_true]
theorem sndG_sub {ws : List Nat} {o i : Expr} {mo mi : Env → M D} {b0 : Nat} (hb0 : ∀ b, b ∈ bs → b ≤ b0) (ho : PE X o (rE X XR bs W mo)) (hi : PE X i (rE X XR bs W mi))
    (ha : ∀ v, assign (.Subscript o i pos) X.env v = (do
      let ov ← holding [v] (eval o X.env)
      let iv ← holding [v, ov] (eval i X.env)
      standAt pos
      holding [v, ov, iv] (setItem ov iv v)
      release [v, ov, iv] [])) :
    PG X (.Subscript o i pos) (rGw X bs ws fun σ d => (M.calm (mo σ)).bnd fun x => (M.calm (mi σ)).bnd fun y => (lstAt x).bnd fun (l, xs) => match y with
    | .p (.int k) => if fits b0 l d && decide (0 ≤ k) && decide (k < xs.length) then (putAt l (xs.set k.toNat d)).bnd fun _ => M.ret σ else M.bad
    | _ => M.bad) := by
  refine (pg_sub ho hi set_list ha).imp fun v σ H Q ⟨ex, bt, st, env, d, S, V, r, C⟩ => ⟨ex, bt, st, env, S, V, Cont.calm (XR := noX) (Y := fun _ _ _ => False) ((Cont.bnd S C).mono fun x H1 ⟨dx, ex1, bt1, st1, E1, S1, R1, C1⟩ => ?_)⟩
  have V1 := V.ext S E1
  refine ⟨ex1, bt1, st1, env, S1, V1, Cont.calm (XR := noX) (Y := fun _ _ _ => False) ((Cont.bnd S1 C1).mono fun y H2 ⟨dy, ex2, bt2, st2, E2, S2, R2, C2⟩ => ?_)⟩
  have V2 := V1.ext S1 E2
  have R1' := RpD.ext S1 E2 R1
  have r2 := RpD.ext S1 E2 (RpD.ext S E1 r)
  obtain ⟨l, ys, q, ws, rfl, hs, hb, rfl, hH, hr, C3⟩ := Cont.lstAt S2 R1' C2
  dsimp only at C3
  split at C3
  · rename_i k
    split at C3
    · rename_i hm
      simp only [Bool.and_eq_true, decide_eq_true_eq] at hm
      have hlen := rpds_len hr
      cases R2
      refine ⟨q, ws, k, k.toNat, rfl, rfl, hH, ixN_nat hm.1.2 (by rw [hlen]; exact hm.2), ?_⟩
      refine C3 _ _ ex2 bt2 (Ext.write hb) (S2.write hb hs (rpds_set k.toNat hr r2) fun b hb2 j hj hlt => ?_) (V2.ext S2 (Ext.write hb)) rfl
      rcases List.mem_or_eq_of_mem_set hj with hj | hj
      · exact S2.wf b hb2 l ys hs j hj hlt
      · subst hj
        have h3 := of_decide_eq_true (show decide (b0 ≤ l) = true from hm.1.1)
        have h4 := hb0 b hb2
        omega
    · exact (show False from C3).elim
  · exact (show False from C3).elim
end
end Ev

end
section
/-! Ev 12: statements. -/
namespace Ev
open PySem PySem.Spec PyProof.Rows L2
/-- what is wanted where a statement ends so -/
def Cs (K : KW) (XR : Nat → Option P → XK → Hp → Prop) (bs : List Nat) (W : WX) (ex : List Addr) (bt : Bt) (H : Hp) (r : SR) (D : Ends) : Prop :=
  match r with
  | .nx env st => ∀ σ H' ex' bt', Ext ex bt H ex' bt' H' → SRel K bs ex' bt' st H' → EnvR K H' ex' bt' env σ → D.nx σ H'
  | .rt d st => ∀ v H' ex' bt', Ext ex bt H ex' bt' H' → SRel K bs ex' bt' st H' → RpD K H' ex' bt' v d → D.rt v H'
  | .exn c x env st => ∀ σ H' ex' bt', Ext ex bt H ex' bt' H' → SRel K bs ex' bt' st H' → EnvR K H' ex' bt' env σ → XR c x (fun cl d H => W cl d σ H) H'
  | .bad => False
section
variable {K : KW} {XR : Nat → Option P → XK → Hp → Prop} {bs : List Nat} {W : WX} {ex ex1 : List Addr} {bt bt1 : Bt} {H H1 : Hp} {st : Store} {D D' : Ends}
theorem Cs.later {r : SR} (S : SRel K bs ex bt st H) (E : Ext ex bt H ex1 bt1 H1) (h : Cs K XR bs W ex bt H r D) : Cs K XR bs W ex1 bt1 H1 r D := by
  cases r with
  | nx env s => exact fun σ H' ex' bt' F S' q => h σ H' ex' bt' (E.trans S F) S' q
  | rt d s => exact fun v H' ex' bt' F S' q => h v H' ex' bt' (E.trans S F) S' q
  | exn c x env s => exact fun σ H' ex' bt' F S' q => h σ H' ex' bt' (E.trans S F) S' q
  | bad => exact h
/-- an evaluation within a statement -/
theorem Cs.ev {α ν : Type} {R : Hp → List Addr → Bt → ν → α → Prop} {r : Res α} {env : Env} {σ : L2.St} {f : α → Store → SR} (S : SRel K bs ex bt st H) (V : EnvR K H ex bt env σ) (h : Cs K XR bs W ex bt H (r.st env f) D) :
    Cont K XR bs (fun c d H => W c d σ H) R ex bt H r fun v H1 => ∃ a ex1 bt1 st1, Ext ex bt H ex1 bt1 H1 ∧ SRel K bs ex1 bt1 st1 H1 ∧ R H1 ex1 bt1 v a ∧ EnvR K H1 ex1 bt1 env σ ∧ Cs K XR bs W ex1 bt1 H1 (f a st1) D := by
  cases r with
  | ok a s => exact fun v H' ex' bt' E S' r => ⟨a, ex', bt', s, E, S', r, V.ext S E, Cs.later S E h⟩
  | exn c x s => exact fun H' ex' bt' E S' => h σ H' ex' bt' E S' (V.ext S E)
  | bad => exact h
theorem Cs.nxt {r : SR} {f : Env → Store → SR} (S : SRel K bs ex bt st H) (h : Cs K XR bs W ex bt H (r.nxt f) D) :
    Cs K XR bs W ex bt H r { D with nx := fun σ H' => ∃ ex' bt' st' env, Ext ex bt H ex' bt' H' ∧ SRel K bs ex' bt' st' H' ∧ EnvR K H' ex' bt' env σ ∧ Cs K XR bs W ex' bt' H' (f env st') D } := by
  cases r with
  | nx env s => exact fun σ H' ex' bt' E S' q => ⟨ex', bt', s, env, E, S', q, Cs.later S E h⟩
  | rt d s => exact h
  | exn c x env s => exact h
  | bad => exact h
theorem Cs.next {env : Env} {σ : L2.St} (S : SRel K bs ex bt st H) (V : EnvR K H ex bt env σ) (h : Cs K XR bs W ex bt H (.nx env st) D) : D.nx σ H := h σ H ex bt .refl S V
end
section
variable {X : Cx} {XR : Nat → Option P → XK → Hp → Prop} {bs : List Nat} {W : WX} {e tg : Expr} {st : Stmt} {sts : List Stmt} {pos p : Pos} {ma mb : Env → M D}
abbrev rS (X : Cx) (XR : Nat → Option P → XK → Hp → Prop) (bs : List Nat) (W : WX) (m : Env → Store → SR) : TS := fun D σ H =>
  ∃ ex bt st env, SRel (kw X) bs ex bt st H ∧ EnvR (kw X) H ex bt env σ ∧ Cs (kw X) XR bs W ex bt H (m env st) D
theorem sndS_nil : PSs X [] (rS X XR bs W fun σ s => .nx σ s) := pss_nil.imp fun D σ H ⟨ex, bt, st, env, S, V, C⟩ => C.next S V
theorem sndS_cons {m1 m2 : Env → Store → SR} (h1 : PS X st (rS X XR bs W m1)) (h2 : PSs X sts (rS X XR bs W m2)) : PSs X (st :: sts) (rS X XR bs W fun σ s => (m1 σ s).nxt m2) := by
  refine (pss_cons h1 h2).imp fun D σ H ⟨ex, bt, st, env, S, V, C⟩ => ⟨ex, bt, st, env, S, V, ?_⟩
  have C1 := Cs.nxt S C
  revert C1
  cases m1 env st with
  | nx env s => exact fun C1 σ' H' ex' bt' E S' V' => let ⟨a, b, c, d, e1, e2, e3, e4⟩ := C1 σ' H' ex' bt' E S' V'; ⟨a, b, c, d, e2, e3, e4⟩
  | rt d s => exact id
  | exn c x env s => exact id
  | bad => exact id
theorem sndS_pass : PS X (.Pass pos) (rS X XR bs W fun σ s => .nx σ s) := ps_pass.imp fun D σ H ⟨ex, bt, st, env, S, V, C⟩ => C.next S V
theorem sndS_doc {x j pos pos'} : PS X (.Expr (.Constant (.str x) j pos) pos') (rS X XR bs W fun σ s => .nx σ s) := ps_doc.imp fun D σ H ⟨ex, bt, st, env, S, V, C⟩ => C.next S V
theorem sndS_expr (he : PE X e (rE X XR bs W ma)) (hs : swapsWith e none pos.line X.env = pure false) : PS X (.Expr e pos) (rS X XR bs W fun σ s => Res.st σ (ma σ s) fun _ s' => .nx σ s') := by
  refine (ps_expr he hs).imp fun D σ H ⟨ex, bt, st, env, S, V, C⟩ => ⟨ex, bt, st, env, S, V, (Cs.ev S V C).mono fun x H1 ⟨d, ex1, bt1, st1, E1, S1, R1, V1, C1⟩ => C1.next S1 V1⟩
theorem sndS_ret (he : PE X e (rE X XR bs W ma)) : PS X (.Return (some e) pos) (rS X XR bs W fun σ s => Res.st σ (ma σ s) fun d s' => .rt d s') := by
  refine (ps_ret he).imp fun D σ H ⟨ex, bt, st, env, S, V, C⟩ => ⟨ex, bt, st, env, S, V, (Cs.ev S V C).mono fun x H1 ⟨d, ex1, bt1, st1, E1, S1, R1, V1, C1⟩ => C1 x H1 ex1 bt1 .refl S1 R1⟩
theorem sndS_retN : PS X (.Return none pos) (rS X XR bs W fun σ s => .rt (.p .none) s) := ps_retN.imp fun D σ H ⟨ex, bt, st, env, S, V, C⟩ => C .non H ex bt .refl S .non
theorem sndS_if {c : Expr} {p q : List Stmt} {tc : Env → M Bool} {m1 m2 : Env → Store → SR} (hc : PT X c (rT X XR bs W tc)) (h1 : PSs X p (rS X XR bs W m1)) (h2 : PSs X q (rS X XR bs W m2)) :
    PS X (.If c p q pos) (rS X XR bs W fun σ s => Res.st σ (tc σ s) fun t s' => if t then m1 σ s' else m2 σ s') := by
  refine (ps_if hc h1 h2).imp fun D σ H ⟨ex, bt, st, env, S, V, C⟩ => ⟨ex, bt, st, env, S, V, (Cs.ev S V C).mono fun k H1 ⟨d, ex1, bt1, st1, E1, S1, R1, V1, C1⟩ => ?_⟩
  subst R1
  cases k with
  | true => exact ⟨ex1, bt1, st1, env, S1, V1, C1⟩
  | false => exact ⟨ex1, bt1, st1, env, S1, V1, C1⟩
theorem sndS_asg {m : Env → D → M Env} (he : PE X e (rE X XR bs W ma)) (hg : PG X tg (rG X bs m)) (hs : swapsWithSole [tg] e pos.line X.env = pure false) (hw : swappedStores [tg] e X.env = pure none) (h1 : (assignEach [tg] X.env).map (·.2) = [assign tg X.env]) :
    PS X (.Assign [tg] e pos) (rS X XR bs W fun σ s => Res.st σ (ma σ s) fun d s' => Res.st σ (M.calm (m σ d) s') fun σ' s'' => .nx σ' s'') := by
  refine (ps_asg he hg hs hw h1).imp fun D σ H ⟨ex, bt, st, env, S, V, C⟩ => ⟨ex, bt, st, env, S, V, (Cs.ev S V C).mono fun x H1 ⟨d, ex1, bt1, st1, E1, S1, R1, V1, C1⟩ => ?_⟩
  refine ⟨ex1, bt1, st1, env, d, S1, V1, R1, ?_⟩
  unfold M.calm at C1
  cases e : m env d st1 with
  | ok env' s =>
    rw [e] at C1
    exact fun σ' H' ex' bt' E' S' V' => (Cs.later S1 E' C1).next S' V'
  | exn c v s => rw [e] at C1; exact (show False from C1).elim
  | bad => rw [e] at C1; exact (show False from C1).elim
theorem set_rd {i : Nat} {D : Ends} {σ : L2.St} {H : Hp} (h : rS X XR bs W (fun σ s => Res.st σ (ma σ s) fun d s' => .nx (σ.set i (some d)) s') D σ H) : rE X XR bs W ma σ H fun x H1 => D.nx (σ.set i (some x)) H1 := by
  obtain ⟨ex, bt, st, env, S, V, C⟩ := h
  exact ⟨ex, bt, st, env, S, V, (Cs.ev S V C).mono fun x H1 ⟨d, ex1, bt1, st1, E1, S1, R1, V1, C1⟩ => C1.next S1 (V1.set R1)⟩
theorem sndS_set {i : Nat} {x : Str} {pos' : Pos} (hN : X.N.Nodup) (hi : X.N[i]? = some x) (hx : Loc X.env.scope x) (he : PE X e (rE X XR bs W ma)) (hs : swapsWith e (some (.Name x pos')) pos.line X.env = pure false) (hf : X.fn x = true ∨ X.env.scope.names.lookup x = some .local) :
    PS X (.Assign [.Name x pos'] e pos) (rS X XR bs W fun σ s => Res.st σ (ma σ s) fun d s' => .nx (σ.set i (some d)) s') := by
  refine (ps_set hN hi hx he hs hf).imp fun D σ H ⟨ex, bt, st, env, S, V, C⟩ => ⟨ex, bt, st, env, S, V, (Cs.ev S V C).mono fun x H1 ⟨d, ex1, bt1, st1, E1, S1, R1, V1, C1⟩ => ?_⟩
  exact C1.next S1 (V1.set R1)
end
end Ev

end
section
/-! Ev 13: loops, stores in a row, new lists. -/
namespace Ev
open PySem PySem.Spec PyProof.Rows L2
section
variable {X : Cx} {XR : Nat → Option P → XK → Hp → Prop} {bs : List Nat} {W : WX} {e tg : Expr} {sts : List Stmt} {pos p : Pos} {ma mb : Env → M D}
theorem forGo_cons (f : P → Env → Store → SR) (x : P) (xs : List P) (σ : Env) (s : Store) : forGo f (x :: xs) σ s = (f x σ s).nxt fun σ' s' => forGo f xs σ' s' := rfl
theorem calm_ev {m : M Env} {st : Store} {env : Env} {f : Env → Store → SR} {D : Ends} {ex : List Addr} {bt : Bt} {H : Hp} {σ : L2.St} (S : SRel (kw X) bs ex bt st H) (V : EnvR (kw X) H ex bt env σ)
    (C : Cs (kw X) XR bs W ex bt H (Res.st env (M.calm m st) f) D) : Cont (kw X) noX bs (fun _ _ _ => False) (EnvOk (kw X)) ex bt H (m st) fun σ' H' => ∃ ex' bt' st' env', SRel (kw X) bs ex' bt' st' H' ∧ EnvR (kw X) H' ex' bt' env' σ' ∧ Ext ex bt H ex' bt' H' ∧ Cs (kw X) XR bs W ex' bt' H' (f env' st') D := by
  unfold M.calm at C
  cases e : m st with
  | ok env' s => rw [e] at C; exact fun σ' H' ex' bt' E' S' V' => ⟨ex', bt', s, env', S', V', E', Cs.later S E' C⟩
  | exn c v s => rw [e] at C; exact (show False from C).elim
  | bad => rw [e] at C; exact (show False from C).elim
theorem sndS_for {iter : Expr} {body : List Stmt} {mi : Env → M (List P)} {mg : Env → D → M Env} {mb : Env → Store → SR} (hp : PassesOwn (model X.prog X.w) X.A X.env X.xe) (hc : X.calm = true) (hi : PI X tg iter (rI X XR bs W mi)) (hg : PG X tg (rG X bs mg)) (hb : PSs X body (rS X XR bs W mb))
    (hs : ∀ x, foldedSetIterable iter X.env x = pure x) :
    PS X (.For tg iter body [] pos) (rS X XR bs W fun σ s => Res.st σ (mi σ s) fun xs s' => forGo (fun p σ' s'' => Res.st σ' (M.calm (mg σ' (.p p)) s'') fun σ2 s2 => mb σ2 s2) xs σ s') := by
  refine (ps_for hp hc hi hg hb hs).imp fun D σ H ⟨ex, bt, st, env, S, V, C⟩ => ⟨ex, bt, st, env, S, V, (Cs.ev S V C).mono fun J H1 ⟨ps, ex1, bt1, st1, E1, S1, J1, V1, C1⟩ => ?_⟩
  let f : P → Env → Store → SR := fun p σ' s'' => Res.st σ' (M.calm (mg σ' (.p p)) s'') fun σ2 s2 => mb σ2 s2
  refine ⟨fun i m σ' H' => m = ps.length - i ∧ i ≤ ps.length ∧ ∃ ex' bt' st' env', Ext ex1 bt1 H1 ex' bt' H' ∧ SRel (kw X) bs ex' bt' st' H' ∧ EnvR (kw X) H' ex' bt' env' σ' ∧ Cs (kw X) XR bs W ex' bt' H' (forGo f (ps.drop i) env' st') D, ⟨ps.length, rfl, Nat.zero_le _, ex1, bt1, st1, env, .refl, S1, V1, C1⟩, ?_⟩
  rintro i m σ2 H2 ⟨rfl, hle, ex2, bt2, st2, env2, E2, S2, V2, C2⟩
  obtain ⟨j1, j2⟩ := J1 bs ex2 bt2 st2 H2 S2 (Ext.rch S1 E2) i
  by_cases hlt : i < ps.length
  · obtain ⟨go, yl⟩ := j2 _ (List.getElem?_eq_getElem hlt)
    refine .inr ⟨go, _, fun σ' H' (h : ∃ ex' bt' st' env', Ext ex1 bt1 H1 ex' bt' H' ∧ SRel (kw X) bs ex' bt' st' H' ∧ EnvR (kw X) H' ex' bt' env' σ' ∧ Cs (kw X) XR bs W ex' bt' H' (forGo f (ps.drop (i + 1)) env' st') D) => ⟨ps.length - (i + 1), by omega, rfl, hlt, h⟩, fun x H3 y => ?_⟩
    obtain ⟨ex3, bt3, E3, S3, r3⟩ := yl x H3 y
    rw [List.drop_eq_getElem_cons hlt, forGo_cons] at C2
    have C3 := Cs.nxt S3 (Cs.later S2 E3 C2)
    have V3 := V2.ext S2 E3
    refine ⟨ex3, bt3, st2, env2, .p ps[i], S3, V3, r3, (calm_ev S3 V3 C3).mono fun σ4 H4 ⟨ex4, bt4, st4, env4, S4, V4, E4, C4⟩ => ⟨ex4, bt4, st4, env4, S4, V4, ?_⟩⟩
    revert C4
    show Cs _ _ _ _ _ _ _ (mb env4 st4) _ → Cs _ _ _ _ _ _ _ (mb env4 st4) _
    cases mb env4 st4 with
    | nx env s => exact fun C σ' H' ex' bt' E' S' V' => let ⟨a, b, c, d, e1, e2, e3, e4⟩ := C σ' H' ex' bt' E' S' V'; ⟨a, b, c, d, (E2.trans S1 E3).trans S1 e1, e2, e3, e4⟩
    | rt d s => exact id
    | exn c x env s => exact id
    | bad => exact id
  · have e : i = ps.length := by omega
    subst e
    rw [List.drop_length] at C2
    exact .inl ⟨j1 rfl, C2.next S2 V2⟩
theorem sndS_while {c : Expr} {body : List Stmt} {n : Nat} {mc : Env → M Bool} {mb : Env → Store → SR} (hp : PassesOwn (model X.prog X.w) X.A X.env X.xe) (hc : PT X c (rT X XR bs W mc)) (hb : PSs X body (rS X XR bs W mb)) :
    PS X (.While c body [] pos) (rS X XR bs W fun σ s => whlGo mc mb n σ s) := by
  refine (ps_while hp hc hb).imp fun D σ H ⟨ex, bt, st, env, S, V, C⟩ => ?_
  refine ⟨fun m σ' H' => ∃ ex' bt' st' env', SRel (kw X) bs ex' bt' st' H' ∧ EnvR (kw X) H' ex' bt' env' σ' ∧ Cs (kw X) XR bs W ex' bt' H' (whlGo mc mb m env' st') D, ⟨n, ex, bt, st, env, S, V, C⟩, ?_⟩
  rintro m σ2 H2 ⟨ex2, bt2, st2, env2, S2, V2, C2⟩
  cases m with
  | zero => exact (show False from C2).elim
  | succ m =>
    refine ⟨ex2, bt2, st2, env2, S2, V2, (Cs.ev S2 V2 C2).mono fun k H3 ⟨d, ex3, bt3, st3, E3, S3, R3, V3, C3⟩ => ?_⟩
    subst R3
    cases k with
    | false => exact C3.next S3 V3
    | true =>
      refine ⟨_, fun σ' H' h => ⟨m, Nat.lt_succ_self m, h⟩, ex3, bt3, st3, env2, S3, V3, ?_⟩
      have C4 := Cs.nxt S3 C3
      revert C4
      cases mb env2 st3 with
      | nx env s => exact fun C σ' H' ex' bt' E' S' V' => let ⟨a, b, c, d, e1, e2, e3, e4⟩ := C σ' H' ex' bt' E' S' V'; ⟨a, b, c, d, e2, e3, e4⟩
      | rt d s => exact id
      | exn c x env s => exact id
      | bad => exact id
theorem sndS_par {i j : Nat} {x y : Str} {a b : Expr} {px py pt : Pos} {kt k2 pt2} {ms : Env → M (List D)} (hc : X.calm = true) (hN : X.N.Nodup) (hi : X.N[i]? = some x) (hj : X.N[j]? = some y) (hij : i ≠ j)
    (hx : X.env.scope.names.lookup x = some .local) (hy : X.env.scope.names.lookup y = some .local) (ha : PA X [a, b] (rA X XR bs W ms))
    (hw : swappedStores [.Tuple [.Name x px, .Name y py] kt pt] (.Tuple [a, b] k2 pt2) X.env = pure (some [x, y]))
    (hs : swapsWithSole [.Tuple [.Name x px, .Name y py] kt pt] (.Tuple [a, b] k2 pt2) pos.line X.env = pure false) :
    PS X (.Assign [.Tuple [.Name x px, .Name y py] kt pt] (.Tuple [a, b] k2 pt2) pos) (rS X XR bs W fun σ s => Res.st σ (ms σ s) fun ds s' => if ds.length = [i, j].length then .nx (setAll σ [i, j] ds) s' else .bad) := by
  refine (ps_par hc hN hi hj hij hx hy ha hw hs).imp fun D σ H ⟨ex, bt, st, env, S, V, C⟩ => ⟨ex, bt, st, env, S, V, (Cs.ev S V C).mono fun vs H1 ⟨ds, ex1, bt1, st1, E1, S1, R1, V1, C1⟩ => ?_⟩
  split at C1
  · rename_i hl
    cases R1 with
    | nil => cases hl
    | cons r1 t => cases t with
      | nil => cases hl
      | cons r2 t => cases t with
        | nil => exact ⟨_, _, rfl, C1.next S1 ((V1.set r1).set r2)⟩
        | cons r3 t => simp at hl
  · exact (show False from C1).elim
theorem sndS_par3 {i j l : Nat} {x y z : Str} {a b c : Expr} {px py pz pt : Pos} {kt k2 pt2} {ms : Env → M (List D)} (hc : X.calm = true) (hN : X.N.Nodup) (hi : X.N[i]? = some x) (hj : X.N[j]? = some y) (hl : X.N[l]? = some z) (hij : i ≠ j) (hil : i ≠ l) (hjl : j ≠ l)
    (hx : X.env.scope.names.lookup x = some .local) (hy : X.env.scope.names.lookup y = some .local) (hz : X.env.scope.names.lookup z = some .local) (ha : PA X [a, b, c] (rA X XR bs W ms))
    (hw : swappedStores [.Tuple [.Name x px, .Name y py, .Name z pz] kt pt] (.Tuple [a, b, c] k2 pt2) X.env = pure (some [x, y, z]))
    (hs : swapsWithSole [.Tuple [.Name x px, .Name y py, .Name z pz] kt pt] (.Tuple [a, b, c] k2 pt2) pos.line X.env = pure false) :
    PS X (.Assign [.Tuple [.Name x px, .Name y py, .Name z pz] kt pt] (.Tuple [a, b, c] k2 pt2) pos) (rS X XR bs W fun σ s => Res.st σ (ms σ s) fun ds s' => if ds.length = [i, j, l].length then .nx (setAll σ [i, j, l] ds) s' else .bad) := by
  refine (ps_par3 hc hN hi hj hl hij hil hjl hx hy hz ha hw hs).imp fun D σ H ⟨ex, bt, st, env, S, V, C⟩ => ⟨ex, bt, st, env, S, V, (Cs.ev S V C).mono fun vs H1 ⟨ds, ex1, bt1, st1, E1, S1, R1, V1, C1⟩ => ?_⟩
  split at C1
  · rename_i hl
    cases R1 with
    | nil => cases hl
    | cons r1 t => cases t with
      | nil => cases hl
      | cons r2 t => cases t with
        | nil => cases hl
        | cons r3 t => cases t with
          | nil => exact ⟨_, _, _, rfl, C1.next S1 (((V1.set r1).set r2).set r3)⟩
          | cons r4 t => simp at hl
  · exact (show False from C1).elim
/-! ### taken for good between statements -/
theorem sndS_frz {i : Nat} {m : Env → Store → SR} (h : PSs X sts (rS X XR bs W m)) : PSs X sts (rS X XR bs W fun σ s => SR.nxt (match σ[i]? with
    | some (some d) => Res.st σ (take d s) fun p s' => .nx (σ.set i (some (.p p))) s'
    | _ => .bad) m) := by
  refine h.imp fun D σ H ⟨ex, bt, st, env, S, V, C⟩ => ?_
  dsimp only at C
  split at C
  · rename_i d hd
    obtain ⟨v, h1, r⟩ := V.get i d hd
    have C1 : Cs (kw X) XR bs W ex bt H (Res.st env (take d st) fun p s' => m (env.set i (some (.p p))) s') D := by
      revert C
      cases take d st <;> exact id
    have k := Cs.ev (R := fun H ex bt (v' : L2.V) (p : P) => v' = v ∧ Rp (kw X) H ex v p) S V C1
    have k2 : Cont (kw X) XR bs (fun c d H => W c d σ H) (fun H ex bt (v' : L2.V) (p : P) => v' = v ∧ Rp (kw X) H ex v p) ex bt H ((take d).bnd M.ret st) fun v H1 => ∃ a ex1 bt1 st1, Ext ex bt H ex1 bt1 H1 ∧ SRel (kw X) bs ex1 bt1 st1 H1 ∧ (v = v ∧ Rp (kw X) H1 ex1 v a) ∧ EnvR (kw X) H1 ex1 bt1 env σ ∧ Cs (kw X) XR bs W ex1 bt1 H1 (m (env.set i (some (.p a))) st1) D := by
      have e : (take d).bnd M.ret st = take d st := by
        unfold M.bnd
        cases take d st <;> rfl
      rw [e]
      revert k
      cases take d st with
      | ok a s => exact fun k v' H' ex' bt' E' S' r' => let ⟨a, b, c, d, e1, e2, e3, e4, e5⟩ := k v' H' ex' bt' E' S' r'; ⟨a, b, c, d, e1, e2, ⟨rfl, by rw [r'.1]; exact e3.2⟩, e4, e5⟩
      | exn c v s => exact id
      | bad => exact id
    obtain ⟨p, ex1, bt1, st1, E1, S1, rp, k3⟩ := Cont.take S r k2
    obtain ⟨p', ex2, bt2, st2, E2, S2, ⟨_, r2⟩, V2, C2⟩ := k3 v H ex1 bt1 .refl S1 ⟨rfl, rp⟩
    have e : σ = σ.set i (some v) := by
      apply List.ext_getElem?
      intro j
      by_cases q : i = j
      · subst q
        rw [h1, List.getElem?_set_self (List.getElem?_eq_some_iff.mp h1).1]
      · rw [List.getElem?_set_ne q]
    refine ⟨ex2, bt2, st2, _, S2, ?_, C2⟩
    rw [e]
    exact V2.set (d := .p p') r2
  · exact (show False from C).elim
end
end Ev

end
section
/-! Ev 14: new lists that stay open; op=. -/
namespace Ev
open PySem PySem.Spec PyProof.Rows L2
/-! ### op= -/
def rAug (K : PySem.W.Frag) : Bop → V → V → Hp → VK → Prop
  | .add => fun x y H Q => ipI (fun i j => i + j) x y H Q ∨ ∃ i j, x = .str i ∧ y = .str j ∧ i.length + j.length ≤ sizeLine ∧ Q (.str (i ++ j)) H
  | .sub => ipI fun i j => i - j
  | .mul => fun x y H Q => ∃ i j, x = .int i ∧ y = .int j ∧ CMulE i j ∧ Q (.int (i * j)) H
  | _ => fun _ _ _ _ => False
theorem pip_rAug {X : Cx} (o : Bop) : PIp X (bopOf o) (rAug X.K o) := by
  cases o with
  | add =>
    intro pins s σ H x y v u Q I r1 r2 h
    rcases h with h | h
    · exact ip_add pins s σ H x y v u Q I r1 r2 h
    · exact iop_add_str pins s σ H x y v u Q I r1 r2 h
  | sub => exact ip_sub
  | mul =>
    intro pins s σ H x y v u Q I r1 r2 h
    obtain ⟨i, j, rfl, rfl, hc, q⟩ := h
    obtain ⟨t, rfl⟩ := r1
    obtain ⟨t', rfl⟩ := r2
    exact imul_int ⟨.int _, H, I.tok _, ⟨_, rfl⟩, q⟩ hc.ok
  | _ => exact fun _ _ _ _ _ _ _ _ _ _ _ _ h => h.elim
section
variable {X : Cx} {XR : Nat → Option P → XK → Hp → Prop} {bs : List Nat} {W : WX} {e tg : Expr} {es : List Expr} {sts : List Stmt} {pos p : Pos} {ma mb : Env → M D}
theorem cmul_of {i j : Int} (h : mulOk i j = true) : CMulE i j := mulOk_e h
theorem sndS_aug {i : Nat} {x : Str} {o : Bop} {pos' : Pos} (hN : X.N.Nodup) (hi : X.N[i]? = some x) (hx : Loc X.env.scope x) (he : PE X e (rE X XR bs W ma)) (hf : X.fn x = true ∨ X.env.scope.names.lookup x = some .local) :
    PS X (.AugAssign (.Name x pos') (bopOf o) e pos) (rS X XR bs W fun σ s => match σ[i]? with
    | some (some x) => Res.st σ (ma σ s) fun y s' => Res.st σ (augD o x y s') fun z s'' => .nx (σ.set i (some z)) s''
    | _ => .bad) := by
  refine (ps_aug hN hi hx he (pip_rAug o) hf).imp fun D σ H ⟨ex, bt, st, env, S, V, C⟩ => ?_
  dsimp only at C
  split at C
  · rename_i d hd
    obtain ⟨v, h1, r⟩ := V.get i d hd
    refine ⟨v, h1, ex, bt, st, env, S, V, (Cs.ev S V C).mono fun y H1 ⟨d1, ex1, bt1, st1, E1, S1, R1, V1, C1⟩ => ?_⟩
    have r' := RpD.ext S E1 r
    unfold augD at C1
    split at C1
    · rename_i a b _
      have C2 : Cs (kw X) XR bs W ex1 bt1 H1 (match augP o a b with
        | some r => .nx (env.set i (some (.p r))) st1
        | none => .bad) D := by
        revert C1
        cases augP o a b <;> exact id
      split at C2
      · rename_i z ez
        have fin : ∀ {zv : L2.V}, Rp (kw X) H1 ex1 zv z → D.nx (σ.set i (some zv)) H1 := fun rz => C2.next S1 (V1.set (d := .p z) rz)
        unfold augP at ez
        split at ez
        · cases ez; cases r'; cases R1
          exact .inl ⟨_, _, rfl, rfl, fin (.int _)⟩
        · split at ez
          · rename_i hl
            cases ez; cases r'; cases R1
            exact .inr ⟨_, _, rfl, rfl, by rw [line_eq]; exact hl, fin (.str _)⟩
          · cases ez
        · cases ez; cases r'; cases R1
          exact ⟨_, _, rfl, rfl, fin (.int _)⟩
        · split at ez
          · rename_i hl
            cases ez; cases r'; cases R1
            exact ⟨_, _, rfl, rfl, cmul_of hl, fin (.int _)⟩
          · cases ez
        · cases ez
      · exact (show False from C2).elim
    · exact (show False from C1).elim
  · exact (show False from C).elim
end
end Ev

end
section
/-! Ev 15: lists that are being made; comprehensions. -/
namespace Ev
open PySem PySem.Spec PyProof.Rows L2
section
variable {K : KW} {bs : List Nat} {ex ex1 : List Addr} {bt bt1 : Bt} {st : Store} {H H1 : Hp} {p : Addr} {vs : List V} {xs : List D}
/-- an object of our own: no data holds it -/
theorem Ext.own {o : HO} (hn : H p = none) : Ext ex bt H (p :: ex) bt (upd H p o) := by
  refine ⟨fun a u h _ => ?_, fun a u h => ?_, fun a h => ?_, fun _ h => .inl (List.mem_cons_of_mem _ h), fun _ _ h => .inl h, fun _ _ h => .inl h⟩
  · rw [upd_ne (ne_of_none h hn)]; exact h
  · exact ⟨u, by rw [upd_ne (ne_of_none h hn)]; exact h⟩
  · rcases List.mem_cons.mp h with e | e
    · exact .inr (by rw [e]; exact hn)
    · exact .inl e
theorem SRel.notBt (S : SRel K bs ex bt st H) (hn : H p = none) : some p ∉ bt := fun q => by
  obtain ⟨vs, e⟩ := S.isl p q
  rw [hn] at e; cases e
theorem SRel.own {ws : List V} (S : SRel K bs ex bt st H) (hn : H p = none) : SRel K bs (p :: ex) bt st (upd H p (.lst ws)) := by
  have E : Ext ex bt H (p :: ex) bt (upd H p (.lst ws)) := Ext.own hn
  refine ⟨S.len, S.low, fun a h => List.mem_cons_of_mem _ (S.live a h), S.inj, fun a h => ?_, fun a h => ?_, fun i xs h => ?_, S.dead, S.wf⟩
  · rcases List.mem_cons.mp h with e | e
    · exact ⟨_, by rw [e]; exact upd_same⟩
    · obtain ⟨o, h1⟩ := S.exH a e
      exact E.dom a o h1
  · obtain ⟨vs, e⟩ := S.isl a h
    exact ⟨vs, by rw [upd_ne (ne_of_none e hn)]; exact e⟩
  · obtain ⟨a, vs, h1, h2, h3⟩ := S.obj i xs h
    exact ⟨a, vs, h1, by rw [upd_ne (ne_of_none h2 hn)]; exact h2, RpDs.ext S E h3⟩
/-- our own list is written -/
theorem Ext.ownPut {o : HO} {us : List V} (hp : H p = some (.lst us)) (ho : ∀ a, a ≠ p → True) (E : Ext ex1 bt1 H1 ex bt H) (hn : H1 p = none) : Ext ex1 bt1 H1 ex bt (upd H p o) := by
  refine ⟨fun a u h n => ?_, fun a u h => ?_, E.exs, E.exk, E.old, E.new⟩
  · rw [upd_ne (ne_of_none h hn)]; exact E.keep a u h n
  · rw [upd_ne (ne_of_none h hn)]; exact E.dom a u h
mutual
theorem Rp.put {o : HO} (hx : p ∈ ex) (nt : ∀ us, H p ≠ some (.tup us)) (nf : ∀ a b, H p ≠ some (.frz a b)) : ∀ {v : V} {d : P}, Rp K H ex v d → Rp K (upd H p o) ex v d
  | _, _, .non => .non
  | _, _, .bl b => .bl b
  | _, _, .int b => .int b
  | _, _, .str b => .str b
  | _, _, .lst (a := a) h n r => .lst (by rw [upd_ne (fun e : a = p => n (by rw [e]; exact hx))]; exact h) n (Rps.put hx nt nf r)
  | _, _, .tup (a := a) h r => .tup (by
      rcases h with (h | ⟨q, h⟩) | h
      · exact .inl (.inl (by rw [upd_ne (fun e : a = p => nt _ (by rw [← e]; exact h))]; exact h))
      · exact .inl (.inr ⟨q, by rw [upd_ne (fun e : a = p => nf _ _ (by rw [← e]; exact h))]; exact h⟩)
      · exact .inr h) (Rps.put hx nt nf r)
  | _, _, .dct (a := a) h n => .dct (by rw [upd_ne (fun e : a = p => n (by rw [e]; exact hx))]; exact h) n
theorem Rps.put {o : HO} (hx : p ∈ ex) (nt : ∀ us, H p ≠ some (.tup us)) (nf : ∀ a b, H p ≠ some (.frz a b)) : ∀ {vs : List V} {ds : List P}, Rps K H ex vs ds → Rps K (upd H p o) ex vs ds
  | _, _, .nil => .nil
  | _, _, .cons r t => .cons (Rp.put hx nt nf r) (Rps.put hx nt nf t)
end
theorem RpD.put {o : HO} {us : List V} (hp : H p = some (.lst us)) (hx : p ∈ ex) : ∀ {v : V} {d : D}, RpD K H ex bt v d → RpD K (upd H p o) ex bt v d
  | _, .p _, h => Rp.put hx (fun _ e => by rw [hp] at e; cases e) (fun _ _ e => by rw [hp] at e; cases e) h
  | _, .loc i, h => h
  | _, .scr _, ⟨a, e, h⟩ => ⟨a, e, by
      rcases h with ⟨q, h⟩ | h
      · exact .inl ⟨q, by rw [upd_ne (fun z : a = p => by rw [z, hp] at h; cases h)]; exact h⟩
      · exact .inr h⟩
  | _, .iset _, ⟨a, T, e, h1, h2, h3⟩ => ⟨a, T, e, h1, by rw [upd_ne (fun z : a = p => h1 (by rw [z]; exact hx))]; exact h2, h3⟩
  | _, .tset _, ⟨a, T, e, h1, h2, h3⟩ => ⟨a, T, e, h1, by rw [upd_ne (fun z : a = p => h1 (by rw [z]; exact hx))]; exact h2, h3⟩
  | _, .fn _, h => h.elim
theorem SRel.ownPut {us ws : List V} (S : SRel K bs ex bt st H) (hp : H p = some (.lst us)) (hx : p ∈ ex) (nb : some p ∉ bt) : SRel K bs ex bt st (upd H p (.lst ws)) := by
  refine ⟨S.len, S.low, S.live, S.inj, fun a h => ?_, fun a h => ?_, fun i xs h => ?_, S.dead, S.wf⟩
  · by_cases e : a = p
    · exact ⟨_, by rw [e]; exact upd_same⟩
    · obtain ⟨o, h1⟩ := S.exH a h
      exact ⟨o, by rw [upd_ne e]; exact h1⟩
  · obtain ⟨vs, e⟩ := S.isl a h
    have z : a ≠ p := fun z => nb (by rw [← z]; exact h)
    exact ⟨vs, by rw [upd_ne z]; exact e⟩
  · obtain ⟨a, vs, h1, h2, h3⟩ := S.obj i xs h
    have z : a ≠ p := fun z => nb (by rw [← z]; exact List.mem_of_getElem? h1)
    exact ⟨a, vs, h1, by rw [upd_ne z]; exact h2, Paired.mapP h3 fun _ _ => RpD.put hp hx⟩
/-- it is let go: plain data from here on -/
abbrev out (ex : List Addr) (p : Addr) : List Addr := ex.filter fun a => decide (a ≠ p)
theorem out_sub {a : Addr} (h : a ∈ out ex p) : a ∈ ex := (List.mem_filter.mp h).1
mutual
theorem Rp.sub {ex' : List Addr} (hs : ∀ a, a ∈ ex' → a ∈ ex) : ∀ {v : V} {d : P}, Rp K H ex v d → Rp K H ex' v d
  | _, _, .non => .non
  | _, _, .bl b => .bl b
  | _, _, .int b => .int b
  | _, _, .str b => .str b
  | _, _, .lst h n r => .lst h (fun q => n (hs _ q)) (Rps.sub hs r)
  | _, _, .tup h r => .tup h (Rps.sub hs r)
  | _, _, .dct h n => .dct h fun q => n (hs _ q)
theorem Rps.sub {ex' : List Addr} (hs : ∀ a, a ∈ ex' → a ∈ ex) : ∀ {vs : List V} {ds : List P}, Rps K H ex vs ds → Rps K H ex' vs ds
  | _, _, .nil => .nil
  | _, _, .cons r t => .cons (Rp.sub hs r) (Rps.sub hs t)
end
theorem RpD.sub {ex' : List Addr} (hs : ∀ a, a ∈ ex' → a ∈ ex) : ∀ {v : V} {d : D}, RpD K H ex bt v d → RpD K H ex' bt v d
  | _, .p _, h => Rp.sub hs h
  | _, .loc _, h => h
  | _, .scr _, h => h
  | _, .iset _, ⟨a, T, e, h1, h2⟩ => ⟨a, T, e, fun q => h1 (hs _ q), h2⟩
  | _, .tset _, ⟨a, T, e, h1, h2⟩ => ⟨a, T, e, fun q => h1 (hs _ q), h2⟩
  | _, .fn _, h => h.elim
theorem Ext.letOut (E : Ext ex1 bt1 H1 ex bt H) (hn : p ∉ ex1) : Ext ex1 bt1 H1 (out ex p) bt H :=
  ⟨E.keep, E.dom, fun a h => E.exs a (out_sub h), fun a h => (E.exk a h).elim (fun z => .inl (List.mem_filter.mpr ⟨z, decide_eq_true fun e => hn (by rw [← e]; exact h)⟩)) .inr, E.old, E.new⟩
theorem SRel.letOut (S : SRel K bs ex bt st H) (nb : some p ∉ bt) : SRel K bs (out ex p) bt st H :=
  ⟨S.len, S.low, fun a h => List.mem_filter.mpr ⟨S.live a h, decide_eq_true fun e => nb (by rw [← e]; exact h)⟩, S.inj, fun a h => S.exH a (out_sub h), S.isl,
    fun i xs h => let ⟨a, vs, h1, h2, h3⟩ := S.obj i xs h; ⟨a, vs, h1, h2, Paired.mapP h3 fun _ _ => RpD.sub fun _ => out_sub⟩, S.dead, S.wf⟩
/-- it joins the store -/
theorem RpD.push {x : Option Addr} : ∀ {v : V} {d : D}, RpD K H ex bt v d → RpD K H ex (bt ++ [x]) v d
  | _, .p _, h => h
  | _, .loc i, ⟨h1, h2⟩ => ⟨by rw [List.length_append]; omega, fun a e => h2 a (by rw [List.getElem?_append_left h1] at e; exact e)⟩
  | _, .scr _, h => h
  | _, .iset _, h => h
  | _, .tset _, h => h
  | _, .fn _, h => h.elim
theorem EnvR.push {x : Option Addr} {env : Env} {σ : L2.St} (V : EnvR K H ex bt env σ) : EnvR K H ex (bt ++ [x]) env σ :=
  ⟨V.len, fun i d e => let ⟨v, h1, h2⟩ := V.get i d e; ⟨v, h1, h2.push⟩⟩
theorem push_get {α : Type} {l : List α} {x y : α} {i : Nat} (h : (l ++ [x])[i]? = some y) : l[i]? = some y ∨ (i = l.length ∧ y = x) := by
  by_cases hi : i < l.length
  · rw [List.getElem?_append_left hi] at h; exact .inl h
  · rw [List.getElem?_append_right (by omega)] at h
    cases e : i - l.length with
    | zero => rw [e] at h; cases h; exact .inr ⟨by omega, rfl⟩
    | succ n => rw [e] at h; cases h
theorem SRel.push (S : SRel K bs ex bt st H) (hp : H p = some (.lst vs)) (hx : p ∈ ex) (nb : some p ∉ bt) (r : RpDs K H ex bt vs xs) : SRel K bs ex (bt ++ [some p]) (st ++ [.lst xs]) H := by
  refine ⟨by rw [List.length_append, List.length_append, S.len]; rfl, fun b h => by rw [List.length_append]; have := S.low b h; omega, fun a h => ?_, fun i j a hi hj => ?_, S.exH, fun a h => ?_, fun i ys h => ?_, fun i h => ?_, fun b hb i ys h j hj hlt => ?_⟩
  · rcases List.mem_append.mp h with h | h
    · exact S.live a h
    · have e : a = p := by simpa using h
      rw [e]; exact hx
  · rcases push_get hi with h1 | ⟨h1, e1⟩
    · rcases push_get hj with h2 | ⟨h2, e2⟩
      · exact S.inj i j a h1 h2
      · cases e2; exact absurd (List.mem_of_getElem? h1) nb
    · rcases push_get hj with h2 | ⟨h2, e2⟩
      · cases e1; exact absurd (List.mem_of_getElem? h2) nb
      · omega
  · rcases List.mem_append.mp h with h | h
    · exact S.isl a h
    · have e : a = p := by simpa using h
      exact ⟨vs, by rw [e]; exact hp⟩
  · rcases push_get h with h1 | ⟨h1, e1⟩
    · obtain ⟨a, ws, h2, h3, h4⟩ := S.obj i ys h1
      refine ⟨a, ws, ?_, h3, Paired.mapP h4 fun _ _ => RpD.push⟩
      rw [List.getElem?_append_left (List.getElem?_eq_some_iff.mp h2).1]; exact h2
    · cases e1
      refine ⟨p, vs, ?_, hp, Paired.mapP r fun _ _ => RpD.push⟩
      rw [h1, ← S.len, List.getElem?_append_right (Nat.le_refl _), Nat.sub_self]; rfl
  · rcases push_get h with h1 | ⟨h1, e1⟩
    · have z := S.dead i h1
      rw [List.getElem?_append_left (List.getElem?_eq_some_iff.mp z).1]; exact z
    · cases e1
  · rcases push_get h with h1 | ⟨h1, e1⟩
    · exact S.wf b hb i ys h1 j hj hlt
    · have := S.low b hb
      omega
theorem Ext.push (E : Ext ex1 bt1 H1 ex bt H) (hn : H1 p = none) : Ext ex1 bt1 H1 ex (bt ++ [some p]) H := by
  refine ⟨E.keep, E.dom, E.exs, E.exk, fun i x h => ?_, fun i a h => ?_⟩
  · rcases E.old i x h with h1 | h1
    · exact .inl (by rw [List.getElem?_append_left (List.getElem?_eq_some_iff.mp h1).1]; exact h1)
    · exact .inr (by rw [List.getElem?_append_left (List.getElem?_eq_some_iff.mp h1).1]; exact h1)
  · rcases push_get h with h1 | ⟨h1, e1⟩
    · exact E.new i a h1
    · cases e1
      exact .inr ⟨by rw [h1]; exact E.length, hn⟩
end
end Ev

end
section
/-! Ev 16: comprehensions, new lists, their statements. -/
namespace Ev
open PySem PySem.Spec PyProof.Rows L2
/-- a new list, our own, of data / of values -/
def RC (K : KW) (H0 : Hp) (H : Hp) (ex : List Addr) (bt : Bt) (v : V) (ps : List P) : Prop := ∃ p vs, v = .ref p ∧ H0 p = none ∧ H p = some (.lst vs) ∧ p ∈ ex ∧ some p ∉ bt ∧ Rps K H ex vs ps
def ROL (K : KW) (H0 : Hp) (H : Hp) (ex : List Addr) (bt : Bt) (v : V) (xs : List D) : Prop := ∃ p vs, v = .ref p ∧ H0 p = none ∧ H p = some (.lst vs) ∧ p ∈ ex ∧ some p ∉ bt ∧ RpDs K H ex bt vs xs
section
variable {X : Cx} {XR : Nat → Option P → XK → Hp → Prop} {bs : List Nat} {W : WX} {e tg iter elt : Expr} {es : List Expr} {sts : List Stmt} {pos p : Pos} {ma mb : Env → M D}
abbrev rC (X : Cx) (XR : Nat → Option P → XK → Hp → Prop) (bs : List Nat) (W : WX) (m : Env → M (List P)) : TE := fun σ H Q =>
  ∃ ex bt st env, SRel (kw X) bs ex bt st H ∧ EnvR (kw X) H ex bt env σ ∧ Cont (kw X) XR bs (fun c d H => W c d σ H) (RC (kw X) H) ex bt H (m env st) Q
abbrev rL (X : Cx) (XR : Nat → Option P → XK → Hp → Prop) (bs : List Nat) (W : WX) (m : Env → M (List D)) : TE := fun σ H Q =>
  ∃ ex bt st env, SRel (kw X) bs ex bt st H ∧ EnvR (kw X) H ex bt env σ ∧ Cont (kw X) XR bs (fun c d H => W c d σ H) (ROL (kw X) H) ex bt H (m env st) Q
theorem ok_of_ret {α β : Type} {m : M α} {f : α → β} {st : Store} : ((m.bnd fun x => M.ret (f x)) st) = (match m st with
    | .ok a s => .ok (f a) s
    | .exn c v s => .exn c v s
    | .bad => .bad) := rfl
/-- as a value -/
theorem ofC_rd {m : Env → M (List P)} {σ : L2.St} {H : Hp} {Q : VK} (h : rE X XR bs W (fun σ => (m σ).bnd fun ys => M.ret (.p (.list ys))) σ H Q) : rC X XR bs W m σ H Q := by
  obtain ⟨ex, bt, st, env, S, V, C⟩ := h
  refine ⟨ex, bt, st, env, S, V, ?_⟩
  dsimp only at C
  rw [ok_of_ret] at C
  cases e : m env st with
  | ok ps s =>
    rw [e] at C
    rintro v H' ex' bt' E' S' ⟨p, vs, rfl, hn, hp, hx, nb, r⟩
    have hpe : p ∉ ex := fun q => by
      obtain ⟨o, ho⟩ := S.exH p q
      rw [hn] at ho; cases ho
    exact C _ H' (out ex' p) bt' (E'.letOut hpe) (S'.letOut nb) (.lst hp (fun q => (of_decide_eq_true (List.mem_filter.mp q).2) rfl) (Rps.sub (fun _ => out_sub) r))
  | exn c v s => rw [e] at C; exact C
  | bad => rw [e] at C; exact C
theorem sndE_ofC {m : Env → M (List P)} (h : PE X e (rC X XR bs W m)) : PE X e (rE X XR bs W fun σ => (m σ).bnd fun ys => M.ret (.p (.list ys))) := h.imp fun _ _ _ q => ofC_rd q
theorem lofC_rd {m : Env → M (List P)} {σ : L2.St} {H : Hp} {Q : VK} (h : rL X XR bs W (fun σ => (m σ).bnd fun ys => M.ret (ys.map D.p)) σ H Q) : rC X XR bs W m σ H Q := by
  obtain ⟨ex, bt, st, env, S, V, C⟩ := h
  refine ⟨ex, bt, st, env, S, V, ?_⟩
  dsimp only at C
  rw [ok_of_ret] at C
  cases e : m env st with
  | ok ps s =>
    rw [e] at C
    rintro v H' ex' bt' E' S' ⟨p, vs, rfl, hn, hp, hx, nb, r⟩
    exact C _ H' ex' bt' E' S' ⟨p, vs, rfl, hn, hp, hx, nb, rpds_p r⟩
  | exn c v s => rw [e] at C; exact C
  | bad => rw [e] at C; exact C
theorem sndL_ofC {m : Env → M (List P)} (h : PE X e (rC X XR bs W m)) : PE X e (rL X XR bs W fun σ => (m σ).bnd fun ys => M.ret (ys.map D.p)) := h.imp fun _ _ _ q => lofC_rd q
theorem Ext.back {ex ex1 : List Addr} {bt bt1 : Bt} {H H1 : Hp} {p : Addr} (E : Ext ex bt H ex1 bt1 H1) (hn : H1 p = none) : H p = none := by
  cases q : H p with
  | none => rfl
  | some o =>
    obtain ⟨o', h⟩ := E.dom p o q
    rw [hn] at h; cases h
theorem sndL_lst {ms : Env → M (List D)} (h : PA X es (rA X XR bs W ms)) : PE X (.List es pos) (rL X XR bs W fun σ => (ms σ).bnd fun xs => if decide (xs.length ≤ line) then M.ret xs else M.bad) := by
  refine (pe_lst h).imp fun σ H Q ⟨ex, bt, st, env, S, V, C⟩ => ⟨ex, bt, st, env, S, V, (Cont.bnd S C).mono fun xs H1 ⟨ds, ex1, bt1, st1, E1, S1, R1, C1⟩ => ?_⟩
  split at C1
  · rename_i hl
    refine ⟨by rw [line_eq, rpds_len R1]; exact of_decide_eq_true hl, fun p hn => ?_⟩
    exact C1 _ _ _ bt1 (Ext.own hn) (S1.own hn) ⟨p, _, rfl, E1.back hn, upd_same, List.mem_cons_self, S1.notBt hn, RpDs.ext S1 (Ext.own hn) R1⟩
  · exact (show False from C1).elim
theorem asgL_ok {i : Nat} {m : Env → M (List D)} {σ : L2.St} {H : Hp} {D : Ends} (h : rS X XR bs W (fun σ s => Res.st σ (m σ s) fun xs s' => .nx (σ.set i (some (.loc s'.length))) (s' ++ [.lst xs])) D σ H) :
    rL X XR bs W m σ H fun v H' => D.nx (σ.set i (some v)) H' := by
  obtain ⟨ex, bt, st, env, S, V, C⟩ := h
  refine ⟨ex, bt, st, env, S, V, ?_⟩
  dsimp only at C
  cases e : m env st with
  | ok xs s =>
    rw [e] at C
    rintro v H' ex' bt' E' S' ⟨p, vs, rfl, hn, hp, hx, nb, r⟩
    refine C _ H' ex' (bt' ++ [some p]) (E'.push hn) (S'.push hp hx nb r) ?_
    refine EnvR.set (V.ext S (E'.push hn)) (d := .loc s.length) ⟨by rw [List.length_append, S'.len]; exact Nat.lt_succ_self _, fun a ha => ?_⟩
    rw [← S'.len, List.getElem?_append_right (Nat.le_refl _), Nat.sub_self] at ha
    cases ha; rfl
  | exn c v s => rw [e] at C; exact fun H' ex' bt' E' S' => C σ H' ex' bt' E' S' (V.ext S E')
  | bad => rw [e] at C; exact C
/-- a fresh list by its own number -/
theorem sndS_asgL {i : Nat} {x : Str} {pos' : Pos} {m : Env → M (List D)} (hN : X.N.Nodup) (hi : X.N[i]? = some x) (hx : Loc X.env.scope x) (he : PE X e (rL X XR bs W m)) (hs : swapsWith e (some (.Name x pos')) pos.line X.env = pure false) (hf : X.fn x = true ∨ X.env.scope.names.lookup x = some .local) :
    PS X (.Assign [.Name x pos'] e pos) (rS X XR bs W fun σ s => Res.st σ (m σ s) fun xs s' => .nx (σ.set i (some (.loc s'.length))) (s' ++ [.lst xs])) := by
  refine (ps_set hN hi hx he hs hf).imp fun D σ H h => asgL_ok h
theorem sndS_retL {m : Env → M (List D)} (he : PE X e (rL X XR bs W m)) :
    PS X (.Return (some e) pos) (rS X XR bs W fun σ s => Res.st σ (m σ s) fun xs s' => .rt (.loc s'.length) (s' ++ [.lst xs])) := by
  refine (ps_ret he).imp fun D σ H ⟨ex, bt, st, env, S, V, C⟩ => ⟨ex, bt, st, env, S, V, ?_⟩
  dsimp only at C
  cases e : m env st with
  | ok xs s =>
    rw [e] at C
    rintro v H' ex' bt' E' S' ⟨p, vs, rfl, hn, hp, hx, nb, r⟩
    refine C _ H' ex' (bt' ++ [some p]) (E'.push hn) (S'.push hp hx nb r) ?_
    refine ⟨by rw [List.length_append, S'.len]; exact Nat.lt_succ_self _, fun a ha => ?_⟩
    rw [← S'.len, List.getElem?_append_right (Nat.le_refl _), Nat.sub_self] at ha
    cases ha; rfl
  | exn c v s => rw [e] at C; exact fun H' ex' bt' E' S' => C σ H' ex' bt' E' S' (V.ext S E')
  | bad => rw [e] at C; exact C
/-! ### comprehensions -/
theorem EnvR.wipe {K : KW} {H : Hp} {ex : List Addr} {bt : Bt} {env : Env} {σ : L2.St} (V : EnvR K H ex bt env σ) {vs ws : List Nat} (hs : ∀ i, i ∈ vs → i ∈ ws) : EnvR K H ex bt (wipeE env ws) (L2.wipe σ vs) := by
  have hl : ∀ (ws : List Nat) (env : Env), (wipeE env ws).length = env.length := by
    intro ws
    induction ws with
    | nil => intro env; rfl
    | cons w ws ih => intro env; show ((wipeE env ws).set w none).length = _; rw [List.length_set, ih]
  have hg : ∀ (ws : List Nat) (env : Env) (i : Nat) (d : D), (wipeE env ws)[i]? = some (some d) → i ∉ ws ∧ env[i]? = some (some d) := by
    intro ws
    induction ws with
    | nil => exact fun env i d h => ⟨List.not_mem_nil, h⟩
    | cons w ws ih =>
      intro env i d h
      have h : ((wipeE env ws).set w none)[i]? = some (some d) := h
      by_cases q : w = i
      · subst q
        by_cases hlt : w < (wipeE env ws).length
        · rw [List.getElem?_set_self hlt] at h; cases h
        · rw [List.getElem?_eq_none (by rw [List.length_set]; omega)] at h; cases h
      · rw [List.getElem?_set_ne q] at h
        obtain ⟨h1, h2⟩ := ih env i d h
        exact ⟨fun z => (List.mem_cons.mp z).elim (fun e => q e.symm) h1, h2⟩
  refine ⟨by rw [hl, wipe_length]; exact V.len, fun i d h => ?_⟩
  obtain ⟨h1, h2⟩ := hg ws env i d h
  obtain ⟨v, h3, h4⟩ := V.get i d h2
  exact ⟨v, by rw [wipe_out fun z => h1 (hs i z)]; exact h3, h4⟩
theorem compGo_cons (f : P → M (List P)) (x : P) (xs acc : List P) : compGo f (x :: xs) acc = (f x).bnd fun ys => if decide (acc.length + ys.length < line) then compGo f xs (acc ++ ys) else M.bad := rfl
/-- a turn's element -/
abbrev oneM (me : Env → M D) (σ : Env) : M (List P) := (me σ).bnd fun y => (take y).bnd fun q => M.ret [q]
/-- a turn -/
abbrev turnM (ws : List Nat) (mg : Env → D → M Env) (mt : Env → M Bool) (k : Env → M (List P)) (σ : Env) (x : P) : M (List P) := M.calm ((mg (wipeE σ ws) (.p x)).bnd fun σ' => (mt σ').bnd fun b => if b then k σ' else M.ret [])
theorem calm_bnd {β γ ν : Type} {K : KW} {Y : XK} {R : Hp → List Addr → Bt → ν → γ → Prop} {ex : List Addr} {bt : Bt} {H : Hp} {m : M β} {f : β → M γ} {st : Store} {Q : ν → Hp → Prop} (h : Cont K XR bs Y R ex bt H (((M.calm m).bnd f) st) Q) :
    ∃ b s, m st = .ok b s ∧ Cont K XR bs Y R ex bt H (f b s) Q := by
  unfold M.bnd M.calm at h
  cases e : m st with
  | ok b s => rw [e] at h; exact ⟨b, s, rfl, h⟩
  | exn c v s => rw [e] at h; exact (show False from h).elim
  | bad => rw [e] at h; exact (show False from h).elim
/-- the state of a comprehension's list -/
structure Acc (K : KW) (bs : List Nat) (H0 : Hp) (ex0 : List Addr) (bt0 : Bt) (D : Addr) (H : Hp) (ex : List Addr) (bt : Bt) (st : Store) (acc : List L2.V) (ps : List P) : Prop where
  E : Ext ex0 bt0 H0 ex bt H
  S : SRel K bs ex bt st H
  n : H0 D = none
  h : H D = some (.lst acc)
  x : D ∈ ex
  b : some D ∉ bt
  r : Rps K H ex acc ps
theorem Acc.ext {K : KW} {H0 : Hp} {ex0 : List Addr} {bt0 : Bt} {D : Addr} {H : Hp} {ex : List Addr} {bt : Bt} {st st1 : Store} {acc : List L2.V} {ps : List P} {bs0 : List Nat} {st0 : Store} {H1 : Hp} {ex1 : List Addr} {bt1 : Bt} (S0 : SRel K bs0 ex0 bt0 st0 H0) (a : Acc K bs H0 ex0 bt0 D H ex bt st acc ps)
    (E : Ext ex bt H ex1 bt1 H1) (S : SRel K bs ex1 bt1 st1 H1) : Acc K bs H0 ex0 bt0 D H1 ex1 bt1 st1 acc ps := by
  refine ⟨a.E.trans S0 E, S, a.n, E.keep _ _ a.h a.b, ?_, fun q => ?_, Rps.ext a.S E a.r⟩
  · rcases E.exk D a.x with z | z
    · exact z
    · exact absurd z a.b
  · obtain ⟨i, hi⟩ := List.mem_iff_getElem?.mp q
    rcases E.new i D hi with z | ⟨_, z⟩
    · exact a.b (List.mem_of_getElem? z)
    · rw [a.h] at z; cases z
/-- one more item -/
theorem Acc.app {K : KW} {H0 : Hp} {ex0 : List Addr} {bt0 : Bt} {D : Addr} {H : Hp} {ex : List Addr} {bt : Bt} {st : Store} {acc : List L2.V} {ps : List P} {v : L2.V} {p : P} (a : Acc K bs H0 ex0 bt0 D H ex bt st acc ps) (r : Rp K H ex v p) :
    Acc K bs H0 ex0 bt0 D (upd H D (.lst (acc ++ [v]))) ex bt st (acc ++ [v]) (ps ++ [p]) := by
  have nt : ∀ us, H D ≠ some (.tup us) := fun _ e => by rw [a.h] at e; cases e
  have nf : ∀ x y, H D ≠ some (.frz x y) := fun _ _ e => by rw [a.h] at e; cases e
  exact ⟨a.E.ownPut a.h (fun _ _ => trivial) a.n, a.S.ownPut a.h a.x a.b, a.n, upd_same, a.x, a.b, (Rps.put a.x nt nf a.r).append (.cons (Rp.put a.x nt nf r) .nil)⟩
end
end Ev

end
section
/-! Ev 17: list comprehensions. -/
namespace Ev
open PySem PySem.Spec PyProof.Rows L2
abbrev noW : WX := fun _ _ _ _ => False
theorem wipe_wipe (σ : L2.St) (vs : List Nat) : L2.wipe (L2.wipe σ vs) vs = L2.wipe σ vs := by
  apply List.ext_getElem?
  intro i
  by_cases h : i ∈ vs
  · have nn : ∀ (vs : List Nat) (σ : L2.St), i ∈ vs → (L2.wipe σ vs)[i]? = if i < σ.length then some none else none := by
      intro vs
      induction vs with
      | nil => intro σ h; cases h
      | cons v vs ih =>
        intro σ h
        show ((L2.wipe σ vs).set v none)[i]? = _
        by_cases q : v = i
        · subst q
          by_cases hl : v < σ.length
          · rw [List.getElem?_set_self (by rw [wipe_length]; exact hl), if_pos hl]
          · rw [List.getElem?_eq_none (by rw [List.length_set, wipe_length]; omega), if_neg hl]
        · rw [List.getElem?_set_ne q]
          exact ih σ ((List.mem_cons.mp h).elim (fun e => absurd e.symm q) id)
    rw [nn vs _ h, nn vs _ h, wipe_length]
  · rw [wipe_out h]
section
variable {X : Cx} {XR : Nat → Option P → XK → Hp → Prop} {bs : List Nat} {W : WX} {e tg iter elt : Expr} {es : List Expr} {sts : List Stmt} {pos p : Pos} {ma mb : Env → M D}
/-- one context of a block -/
abbrev blkX (X : Cx) (scope : Scope) (s : Shared) (H : Hp) (C : Addr) (cl : List (Str × Addr)) (fp : List Addr) : Cx := X.blk s H scope (compEnvC scope cl C X.env) fp
/-- the turn's test and element -/
theorem turn_ok {K : KW} {H0 Hb : Hp} {ex0 exb : List Addr} {bt0 btb : Bt} {Dd : Addr} {H1 : Hp} {ex1 : List Addr} {bt1 : Bt} {st1 st0 stb s0 : Store} {acc : List L2.V} {ps ys : List P} {bs0 : List Nat} {me : Env → M D} {env : Env} {σ : L2.St} {tt : TT} {te : TE} {mt : Env → M Bool} {Nx : Hp → Prop}
    (S0 : SRel K bs0 ex0 bt0 st0 H0)
    (ht : ∀ σ H Q, rdT K noX bs noW mt σ H Q → tt σ H Q) (he : ∀ σ H Q, rdE K noX bs noW me σ H Q → te σ H Q) (ab : Acc K bs H0 ex0 bt0 Dd Hb exb btb stb acc ps) (a : Acc K bs H0 ex0 bt0 Dd H1 ex1 bt1 st1 acc ps) (V : EnvR K H1 ex1 bt1 env σ)
    (C : Cont K noX bs (fun _ _ _ => False) (fun H ex _ (us : List L2.V) (ys : List P) => Rps K H ex us ys) ex1 bt1 H1 (((mt env).bnd fun b => if b then oneM me env else M.ret []) st1) fun us H2 => ∃ ex2 bt2, Ext exb btb Hb ex2 bt2 H2 ∧ SRel K bs ex2 bt2 s0 H2 ∧ Rps K H2 ex2 us ys)
    (hn0 : ys = [] → ∀ H2 ex2 bt2, Acc K bs H0 ex0 bt0 Dd H2 ex2 bt2 s0 acc ps → Nx H2)
    (hn1 : ∀ p, ys = [p] → ∀ H2 ex2 bt2 v, Acc K bs H0 ex0 bt0 Dd H2 ex2 bt2 s0 acc ps → Rp K H2 ex2 v p → acc.length < sizeLine ∧ Nx (upd H2 Dd (.lst (acc ++ [v])))) :
    tt σ H1 fun b H3 => if b = true then te σ H3 fun y H4 => ∃ acc, H4 Dd = some (.lst acc) ∧ acc.length < sizeLine ∧ Nx (upd H4 Dd (.lst (acc ++ [y]))) else Nx H3 := by
  refine ht _ _ _ ⟨ex1, bt1, st1, env, a.S, V, (Cont.tst a.S C).mono fun k H2 ⟨ex2, bt2, st2, E2, S2, C2⟩ => ?_⟩
  cases k with
  | false =>
    rw [if_neg Bool.false_ne_true]
    obtain ⟨ex3, bt3, E3, S3, r3⟩ := C2 [] H2 ex2 bt2 .refl S2 .nil
    cases r3
    exact hn0 rfl H2 ex3 bt3 (ab.ext S0 E3 S3)
  | true =>
    rw [if_pos rfl]
    refine he _ _ _ ⟨ex2, bt2, st2, env, S2, V.ext a.S E2, (Cont.bnd S2 C2).mono fun y H4 ⟨d, ex4, bt4, st4, E4, S4, R4, C4⟩ => ?_⟩
    obtain ⟨q, ex5, bt5, st5, E5, S5, r5, C5⟩ := Cont.take S4 R4 C4
    obtain ⟨ex6, bt6, E6, S6, r6⟩ := C5 [y] H4 ex5 bt5 .refl S5 (.cons r5 .nil)
    have a6 := ab.ext S0 E6 S6
    cases r6 with
    | cons r6 t =>
      cases t
      obtain ⟨z1, z2⟩ := hn1 _ rfl H4 ex6 bt6 y a6 r6
      exact ⟨acc, a6.h, z1, z2⟩
theorem comp_rd {vs ws : List Nat} {mi : Env → M (List P)} {mg : Env → D → M Env} {mt : Env → M Bool} {me : Env → M D} (hv : ∀ i, i ∈ vs → i ∈ ws) {σ : L2.St} {H : Hp} {Q : VK}
    (h : rC X XR bs W (fun σ => (mi σ).bnd fun xs => compGo (turnM ws mg mt (oneM me) σ) xs []) σ H Q) : tLc (rI X XR bs W mi) (rGw X bs vs mg) (rT X noX bs noW mt) (rE X noX bs noW me) vs σ H Q := by
  obtain ⟨ex, bt, st, env, S, V, C⟩ := h
  refine ⟨ex, bt, st, env, S, V, (Cont.bnd S C).mono fun J H1 ⟨ps, ex1, bt1, st1, E1, S1, J1, C1⟩ => fun Dd hD => ?_⟩
  have V1 := V.ext S E1
  let f := turnM ws mg mt (oneM me) env
  refine ⟨fun i m H' => m = ps.length - i ∧ i ≤ ps.length ∧ ∃ ex' bt' st' acc qs, Acc (kw X) bs H1 ex1 bt1 Dd H' ex' bt' st' acc qs ∧ acc.length = qs.length ∧ Cont (kw X) XR bs (fun c d H => W c d σ H) (RC (kw X) H) ex1 bt1 H1 (compGo f (ps.drop i) qs st') Q,
    ⟨ps.length, rfl, Nat.zero_le _, Dd :: ex1, bt1, st1, [], [], ⟨Ext.own hD, S1.own hD, hD, upd_same, List.mem_cons_self, S1.notBt hD, .nil⟩, rfl, C1⟩, ?_⟩
  rintro i m H2 ⟨rfl, hle, ex2, bt2, st2, acc, qs, a, hl, C2⟩
  obtain ⟨j1, j2⟩ := J1 bs ex2 bt2 st2 H2 a.S (Ext.rch S1 a.E) i
  by_cases hlt : i < ps.length
  · obtain ⟨go, yl⟩ := j2 _ (List.getElem?_eq_getElem hlt)
    refine .inr ⟨go, _, fun H' (h : ∃ ex' bt' st' acc qs, Acc (kw X) bs H1 ex1 bt1 Dd H' ex' bt' st' acc qs ∧ acc.length = qs.length ∧ Cont (kw X) XR bs (fun c d H => W c d σ H) (RC (kw X) H) ex1 bt1 H1 (compGo f (ps.drop (i + 1)) qs st') Q) => ⟨ps.length - (i + 1), by omega, rfl, hlt, h⟩, fun x H3 y => ?_⟩
    obtain ⟨ex3, bt3, E3, S3, r3⟩ := yl x H3 y
    have a3 := a.ext S1 E3 S3
    rw [List.drop_eq_getElem_cons hlt, compGo_cons] at C2
    obtain ⟨ys, s0, ey, C2⟩ := calm_bnd C2
    have C3 : Cont (kw X) noX bs (fun _ _ _ => False) (fun H ex _ (us : List L2.V) (ys : List P) => Rps (kw X) H ex us ys) ex3 bt3 H3 (((mg (wipeE env ws) (.p ps[i])).bnd fun σ' => (mt σ').bnd fun b => if b then oneM me σ' else M.ret []) st2) fun us H' => ∃ ex' bt', Ext ex3 bt3 H3 ex' bt' H' ∧ SRel (kw X) bs ex' bt' s0 H' ∧ Rps (kw X) H' ex' us ys := by
      rw [ey]
      exact fun v H' ex' bt' E' S' r => ⟨ex', bt', E', S', r⟩
    refine ⟨ex3, bt3, st2, wipeE env ws, .p ps[i], S3, ((V1.ext S1 a3.E).wipe hv), r3, (Cont.bnd S3 C3).mono fun σ4 H4 ⟨env4, ex4, bt4, st4, E4, S4, V4, C4⟩ hw4 => ⟨?_, ?_⟩⟩
    · rw [wipe_wipe] at hw4; exact hw4
    · refine turn_ok S1 (fun _ _ _ h => h) (fun _ _ _ h => h) a3 (a3.ext S1 E4 S4) V4 C4 (fun ez H5 ex5 bt5 a5 => ?_) fun p ez H5 ex5 bt5 v a5 r5 => ?_
      · subst ez
        split at C2
        · rw [List.append_nil] at C2
          exact ⟨ex5, bt5, s0, acc, qs, a5, hl, C2⟩
        · exact (show False from C2).elim
      · subst ez
        split at C2
        · rename_i hz
          have hz := of_decide_eq_true hz
          simp only [List.length_cons] at hz
          exact ⟨by rw [line_eq, hl]; omega, ex5, bt5, s0, acc ++ [v], qs ++ [p], a5.app r5, by rw [List.length_append, List.length_append, hl]; rfl, C2⟩
        · exact (show False from C2).elim
  · have e : i = ps.length := by omega
    subst e
    rw [List.drop_length] at C2
    refine .inl ⟨j1 rfl, C2 _ H2 ex2 bt2 a.E a.S ⟨Dd, acc, rfl, E1.back hD, a.h, a.x, a.b, a.r⟩⟩
theorem sndC_comp {ifs : List Expr} {scope : Scope} {own : List (Str × Nat)} {ws : List Nat} {mi : Env → M (List P)} {mg : Env → D → M Env} {mt : Env → M Bool} {me : Env → M D} (hc : X.calm = true) (hN : X.N.Nodup) (hi : PI X tg iter (rI X XR bs W mi)) (ok : BlkOk X.N X.env.scope scope own) (hv : ∀ i, i ∈ own.map (·.2) → i ∈ ws)
    (hg : ∀ (s : Shared) (H : Hp) (C : Addr) (cl : List (Str × Addr)) (fp : List Addr), PG (blkX X scope s H C cl fp) tg (rGw X bs (own.map (·.2)) mg)) (ht : ∀ (s : Shared) (H : Hp) (C : Addr) (cl : List (Str × Addr)) (fp : List Addr), PTs (blkX X scope s H C cl fp) ifs (rT X noX bs noW mt))
    (he : ∀ (s : Shared) (H : Hp) (C : Addr) (cl : List (Str × Addr)) (fp : List Addr), PE (blkX X scope s H C cl fp) elt (rE X noX bs noW me)) (hs : ∀ x, foldedSetIterable iter X.env x = pure x) :
    PE X (.ListComp elt [⟨tg, iter, ifs, 0⟩] scope pos) (rC X XR bs W fun σ => (mi σ).bnd fun xs => compGo (turnM ws mg mt (oneM me) σ) xs []) :=
  (pe_lc hc hN hi ok hg ht he hs).imp fun σ H Q h => comp_rd hv h
/-- name = [..], stored from within -/
theorem sndS_setC {i : Nat} {y : Str} {py spos : Pos} {m : Env → M (List P)} {mr : Env → Store → SR} {ifs : List Expr} {scope : Scope} {own : List (Str × Nat)} {ws : List Nat} {mi : Env → M (List P)} {mg : Env → D → M Env} {mt : Env → M Bool} {me : Env → M D} (hc : X.calm = true) (hN : X.N.Nodup) (hy : X.N[i]? = some y) (hyl : X.env.scope.names.lookup y = some .local)
    (hsw : swapsWith (.ListComp elt [⟨tg, iter, ifs, 0⟩] scope pos) (some (.Name y py)) spos.line X.env = pure true) (hi : PI X tg iter (rI X XR bs W mi)) (ok : BlkOk X.N X.env.scope scope own) (hv : ∀ i, i ∈ own.map (·.2) → i ∈ ws)
    (hg : ∀ (s : Shared) (H : Hp) (C : Addr) (cl : List (Str × Addr)) (fp : List Addr), PG (blkX X scope s H C cl fp) tg (rGw X bs (own.map (·.2)) mg)) (ht : ∀ (s : Shared) (H : Hp) (C : Addr) (cl : List (Str × Addr)) (fp : List Addr), PTs (blkX X scope s H C cl fp) ifs (rT X noX bs noW mt))
    (he : ∀ (s : Shared) (H : Hp) (C : Addr) (cl : List (Str × Addr)) (fp : List Addr), PE (blkX X scope s H C cl fp) elt (rE X noX bs noW me)) (hs : ∀ x, foldedSetIterable iter X.env x = pure x)
    (hm : m = fun σ => (mi σ).bnd fun xs => compGo (turnM ws mg mt (oneM me) σ) xs []) (hr : ∀ D σ H, rS X XR bs W mr D σ H → rC X XR bs W m σ H fun v H' => D.nx (σ.set i (some v)) H') :
    PS X (.Assign [.Name y py] (.ListComp elt [⟨tg, iter, ifs, 0⟩] scope pos) spos) (rS X XR bs W mr) := by
  subst hm
  exact (ps_setLc hc hN hy hyl hsw hi ok hg ht he hs).imp fun D σ H h => comp_rd hv (hr D σ H h)
end
end Ev

end
section
/-! Ev 18: enumerate over a tuple. -/
namespace Ev
open PySem PySem.Spec PyProof.Rows L2
theorem meetsEnumAny {v : Value} {ob : Obj} {G : Heap → Prop} (B : Begins v ob G) : Meets (Builtin.«enumerate.__new__» ⟨[.type "enumerate", v], []⟩) (fun _ R s1 => G s1.heap ∧
      R (.ok (.ret (.ref (s1.heap.push ob).objs.size))) { s1 with heap := (s1.heap.push ob).push { cls := .type "enumerate", data := .fields #[.none, .bool false, .ref s1.heap.objs.size, rawInt 0, .none, .none] } }) :=
  .of_wp fun pr wd Ar R s2 hyp => by
    obtain ⟨hp, ge, dr, tk, os⟩ := s2
    obtain ⟨hG, hyp⟩ := hyp
    have isE := sub_enumerate
    have goV : ∀ {A1 : Around} {E1 : Value → Shared → Prop} {Q1 : Value → Shared → Prop}, Q1 (.ref hp.objs.size) ⟨hp.push ob, ge, dr, tk, os⟩ → wpAny (model pr wd) A1 (pyIter v) Q1 E1 ⟨hp, ge, dr, tk, os⟩ := fun q => B.iter pr wd _ _ ⟨hp, ge, dr, tk, os⟩ _ hG q
    wp_walk using goV
    refine wpAny_stack_any fun frames => wpAny_pure ?_
    split
    · rename_i cc _ _ _ _ _
      cases (cc == Value.type "enumerate") <;> (wp_walk using goV; exact ⟨_, rfl, hyp⟩)
    · wp_walk using goV
      exact ⟨_, rfl, hyp⟩
section
variable {pr : Program} {wd : World} {Ar : Around} {E : Value → Shared → Prop} {s : Shared}
theorem callEnumAny {v : Value} {ob : Obj} {G : Heap → Prop} {Q : Value → Shared → Prop} (B : Begins v ob G) (hG : G s.heap)
    (hq : ∀ g, IsEnum g (s.heap.objs.size + 1) s.heap.objs.size 0 .none → g.get? s.heap.objs.size = some ob → (∀ b o, s.heap.get? b = some o → g.get? b = some o) → Q (.ref (s.heap.objs.size + 1)) { s with heap := g }) :
    wpAny (model pr wd) Ar (call (.type "enumerate") [v]) Q E s := by
  refine callType_new F.called_enumerate (by decide) (F.typeCall_enumerate_1 _) (F.newCall_enumerate_1 _) (fun x => F.args_object_init_2 x _) F.entry_enumerate_new (meetsEnumAny B) ⟨hG, ?_⟩
  have sz : (s.heap.push ob).objs.size = s.heap.objs.size + 1 := Heap.size_push ..
  have he := Heap.get?_push_size (s.heap.push ob) (o := { cls := .type "enumerate", data := .fields #[.none, .bool false, .ref s.heap.objs.size, rawInt 0, .none, .none] }) rfl
  show _ ∧ _
  rw [sz] at he ⊢
  exact ⟨⟨_, he, rfl⟩, hq _ he (Heap.get?_push_of_some _ (Heap.get?_push_size _ B.free)) fun b o x => Heap.get?_push_of_some _ (Heap.get?_push_of_some _ x)⟩
end
/-- the tuple at a, each item in a new pair -/
def IteT (K : PySem.W.Frag) (a : Addr) : It :=
  ⟨fun i H => ∃ (us : List V) (y : V), SqT K H a us ∧ us[i]? = some y, fun i H v H' => ∃ T y, v = .ref T ∧ H T = none ∧ H' = upd H T (.tup [.int (i : Nat), y]) ∧ ∀ us, SqT K H a us → us[i]? = some y, fun i H => ∃ us : List V, SqT K H a us ∧ us.length = i⟩
theorem turnEnumT {pr : Program} {wd : World} {K : PySem.W.Frag} {els : List Expr} {k0 : Nat} {tp : Pos} (a e j : Addr) (haj : a ≠ j) :
    Turn pr wd K (.Tuple els k0 tp) (IteT K a) [e, j] e (fun i g => (∃ old, IsEnum g e j ((i : Nat) : Int) old) ∧ g.IsTupleIter j a i ∧ e ≠ j) where
  mem := by simp
  obj := fun i g st b hb => by
    obtain ⟨⟨old, h1⟩, ⟨o, h2, _, h3⟩, _⟩ := st
    have q : b = e ∨ b = j := by simpa using hb
    rcases q with rfl | rfl
    · exact ⟨_, h1, fun v z => nomatch z⟩
    · exact ⟨o, h2, fun v z => by rw [h3] at z; cases z⟩
  keep := fun i g g' st k => ⟨let ⟨old, h1⟩ := st.1; ⟨old, k e (by simp) _ h1⟩, st.2.1.at fun o q => k j (by simp) o q, st.2.2⟩
  item := by
    intro X hP hw hK hc i pins s σ H E I hf st hg
    subst hP hw hK
    obtain ⟨⟨old, he⟩, hj, hne⟩ := st
    obtain ⟨us, y, hq, hy⟩ := hg
    obtain ⟨its, rv, p1, _⟩ := I.tuple hq
    obtain ⟨u, hu, ru⟩ := rv.get hy
    have le1 : e < s.heap.objs.size := Heap.lt_size he
    have lj : j < s.heap.objs.size := by obtain ⟨_, q, _⟩ := hj; exact Heap.lt_size q
    have Dr := Draws.tuple (prog := X.prog) (w := X.w) (A := X.A.in1) (I.ok.hd hc) j a haj its.toArray
    have hi : i < its.toArray.size := by
      have z : its[i]? = some u := hu
      rw [List.size_toArray]
      exact (List.getElem?_eq_some_iff.mp z).1
    have nea : e ≠ a := fun z => by
      obtain ⟨oa, q1, q2, _⟩ := p1
      rw [← z, he] at q1; cases q1; exact absurd (show Value.type "enumerate" = Value.type "tuple" from q2) (by decide)
    refine wpAny_pyNext_enum_itemD (i := i) Dr he ⟨hj, p1⟩ hi hne (by simp [hne, nea]) fun x' g tk hx ho hj' hT hsz kp => ?_
    have ex : x' = u := by
      have z : its[i]? = some x' := by simpa using hx
      rw [hu] at z; cases z; rfl
    subst ex
    refine ⟨_, rfl, wpAny_letOwnedTupleGo_enum (s := { s with heap := g, toks := tk + 1 }) ho fun g2 he2 sb => ?_⟩
    have hT2 := (sb.2 s.heap.objs.size (Nat.ne_of_gt le1)).trans hT
    have nw : ObjOk X.prog X.w (upd H s.heap.objs.size (.tup [.int (i : Nat), y])) g2 s.heap.objs.size (.tup [.int (i : Nat), y]) :=
      ⟨by show 2 ≤ sizeLine; decide, [.int i tk, x'], .cons ⟨_, rfl⟩ (.cons ru .nil), ⟨_, hT2, rfl, _, rfl⟩⟩
    have I1 := I.turnedNew (t' := tk + 1) (ch := [e, j]) (fun b o nb q => (sb.2 b (fun z => nb (by simp [z]))).trans (kp b o (fun z => nb (by simp [z])) (fun z => nb (by simp [z])) q)) hf (Nat.le_refl _) nw
    refine ⟨.ref s.heap.objs.size, _, I1, rfl, ⟨_, y, rfl, I.hok.fresh (Nat.le_refl _), rfl, fun ys h2 => by rw [I.tuple_inj h2 hq]; exact hy⟩, ⟨⟨x', ?_⟩, hj'.1.at fun o q => (sb.2 j (Ne.symm hne)).trans q, hne⟩, fun b hb => ?_⟩
    · rw [show ((i + 1 : Nat) : Int) = (i : Int) + 1 by omega]
      exact he2
    · have lb : b < s.heap.objs.size := by
        have q : b = e ∨ b = j := by simpa using hb
        rcases q with rfl | rfl
        · exact le1
        · exact lj
      rw [upd_ne (Nat.ne_of_lt lb)]
      exact (hf b hb).1
  done := by
    intro X hP hw hK hc i pins s σ H E I hf st hg
    subst hP hw hK
    obtain ⟨⟨old, he⟩, hj, hne⟩ := st
    obtain ⟨us, hq, hl⟩ := hg
    obtain ⟨its, rv, p1, _⟩ := I.tuple hq
    obtain ⟨f0, f1, f2, f3, f4, f5⟩ := hf j (by simp)
    have ll := rv.length
    have Dr := Draws.tuple (prog := X.prog) (w := X.w) (A := X.A.in1) (I.ok.hd hc) j a haj its.toArray
    have en : i = its.toArray.size := by rw [List.size_toArray]; omega
    subst en
    exact wpAny_pyNext_enum_endD Dr he ⟨hj, p1⟩ fun g kp => ⟨rfl, I.turned (t' := s.toks) (fun b o nb q => kp b o nb q) f0 f1 f3 f4 f5⟩
  self := fun Ar i s Q E st h => let ⟨⟨_, he⟩, _⟩ := st; wpAny_pyIter_enum he h
/-- enumerate(x), x a list or a tuple -/
def iEnumA (K : PySem.W.Frag) (ta : TA) : TI := fun σ H R => ta σ H fun us H1 => (∃ a xs, us = [.ref a] ∧ SqL K H1 a xs ∧ R (Ite K a) H1) ∨ ∃ a xs, us = [.ref a] ∧ SqT K H1 a xs ∧ R (IteT K a) H1
section
variable {X : Cx} {XR : Nat → Option P → XK → Hp → Prop} {bs : List Nat} {W : WX} {e : Expr} {els : List Expr} {k0 : Nat} {tp p pos : Pos} {ma : Env → M D}
theorem pi_enumA {ta : TA} (hg : Gl X "enumerate") (hm : X.mg "enumerate" = none) (ha : PA X [e] ta) (hs : starEach [e] X.env = [(false, eval e X.env)]) :
    PI X (.Tuple els k0 tp) (.Call (.Name "enumerate" p) [e] [] pos) (iEnumA X.K ta) := by
  constructor
  intro pins s σ H R I h
  refine Call_ (ld_blt I hg hm boot_enumerate (PyProof.Rows.callWith_type1 (thn (ha.run pos pins s σ H _ I h) ?_) hs rfl))
  rintro us s1 ⟨vs, H1, I1, r1, ⟨a, xs, rfl, hq, q⟩ | ⟨a, xs, rfl, hq, q⟩⟩
  · cases r1 with
    | cons r rr =>
    cases rr
    cases r
    obtain ⟨its, rv, p1, _⟩ := I1.list hq
    refine call_enumerate_list p1.isList fun g he hj hsz kp => wpAny_pyIter_enum he ?_
    refine ⟨_, [s1.heap.objs.size + 1, s1.heap.objs.size], _, _, H1, rfl, I1.kept (t' := s1.toks) kp, turn_enum a _ _, ⟨⟨.none, he⟩, hj, Nat.succ_ne_self _⟩, fun b hb => ?_, q⟩
    have le : s1.heap.objs.size ≤ b := by
      have z : b = s1.heap.objs.size + 1 ∨ b = s1.heap.objs.size := by simpa using hb
      rcases z with rfl | rfl
      · exact Nat.le_add_right _ _
      · exact Nat.le_refl _
    exact I1.fpOk le (I1.hok.fresh le)
  · cases r1 with
    | cons r rr =>
    cases rr
    cases r
    obtain ⟨its, rv, p1, _⟩ := I1.tuple hq
    have hne : a ≠ s1.heap.objs.size := by obtain ⟨oa, q1, _⟩ := id p1; exact Nat.ne_of_lt (Heap.lt_size q1)
    refine callEnumAny (begins_tuple a its.toArray) p1 fun g he hj kp => wpAny_pyIter_enum he ?_
    refine ⟨_, [s1.heap.objs.size + 1, s1.heap.objs.size], _, _, H1, rfl, I1.kept (t' := s1.toks) kp, turnEnumT a _ _ hne, ⟨⟨.none, he⟩, ⟨_, hj, rfl, rfl⟩, Nat.succ_ne_self _⟩, fun b hb => ?_, q⟩
    have le : s1.heap.objs.size ≤ b := by
      have z : b = s1.heap.objs.size + 1 ∨ b = s1.heap.objs.size := by simpa using hb
      rcases z with rfl | rfl
      · exact Nat.le_add_right _ _
      · exact Nat.le_refl _
    exact I1.fpOk le (I1.hok.fresh le)
theorem itok_enumT {K : KW} {ex : List Addr} {bt : Bt} {st : Store} {H : Hp} {a : Addr} {vs : List L2.V} {ps : List P} (S : SRel K bs ex bt st H) (h : Stay K H ex bt (fun H1 ws => SqT K H1 a ws) vs ps) : ItOk K H ex bt (IteT K a) (enumL 0 ps) := by
  have l := h.len S
  refine itok_new (m := ps.length) (enum_len ps 0) fun bs1 ex1 bt1 st1 H1 S1 E i => ?_
  obtain ⟨q, r⟩ := h bs1 ex1 bt1 st1 H1 S1 E
  refine ⟨fun hi => ⟨vs, q, by omega⟩, fun hi => ⟨⟨vs, _, q, List.getElem?_eq_getElem (by omega)⟩, fun x H2 y => ?_⟩⟩
  obtain ⟨T, z, rfl, hn, rfl, hz⟩ := y
  obtain ⟨p, e1, e2⟩ := r.get (hz vs q)
  refine ⟨T, _, [.int (i : Nat), p], rfl, hn, rfl, ?_, .cons (.int _) (.cons e2 .nil)⟩
  rw [enum_get, e1, Nat.zero_add]; rfl
theorem sndI_enum (hg : Gl X "enumerate") (hm : X.mg "enumerate" = none) (ha : PE X e (rE X XR bs W ma)) (hs0 : starEach (e :: []) X.env = (false, eval e X.env) :: starEach [] X.env) (hs : starEach [e] X.env = [(false, eval e X.env)]) :
    PI X (.Tuple els k0 tp) (.Call (.Name "enumerate" p) [e] [] pos) (rI X XR bs W fun σ => (ma σ).bnd fun x => match x with
    | .p (.list xs) => M.ret (enumL 0 xs)
    | .p (.tuple xs) => M.ret (enumL 0 xs)
    | _ => M.bad) := by
  refine (pi_enumA hg hm (pa_cons ha pa_nil hs0) hs).imp fun σ H R ⟨ex, bt, st, env, S, V, C⟩ => ⟨ex, bt, st, env, S, V, (Cont.bnd S C).mono fun x H1 ⟨d, ex1, bt1, st1, E1, S1, R1, C1⟩ => ?_⟩
  split at C1
  · cases R1 with
    | lst h n r => exact .inl ⟨_, _, rfl, SqL.of h, Cont.itv S1 C1 (itok_enum S1 (stay_lst S1 h n r))⟩
  · cases R1 with
    | tup h r => exact .inr ⟨_, _, rfl, h, Cont.itv S1 C1 (itok_enumT S1 (stay_tup S1 h r))⟩
  · exact (show False from C1).elim
end
end Ev

end
section
/-! Ev 19: isinstance. -/
namespace Ev
open PySem PySem.Spec PyProof.Rows L2
def tyT : Ty → String
  | .int => "int" | .bool => "bool" | .str => "str" | .tuple => "tuple" | .list => "list"
def tyN : Ty → Str
  | .int => "int" | .bool => "bool" | .str => "str" | .tuple => "tuple" | .list => "list"
/-- the name of a datum's class -/
def ofP : P → String
  | .none => "NoneType" | .bool _ => "bool" | .int _ => "int" | .str _ => "str" | .list _ => "list" | .tuple _ => "tuple" | .dict _ => "dict"
theorem kit_p (K : PySem.W.Frag) (d : P) (t : Ty) : PySem.W.kitOne K (.type (ofP d)) (.type (tyT t)) = some (tyP d t) := by
  refine kit_ty ?_
  cases d <;> cases t <;> first
    | (show kitB "NoneType" "int" = some false; decide +kernel)
    | (show kitB "NoneType" "bool" = some false; decide +kernel)
    | (show kitB "NoneType" "str" = some false; decide +kernel)
    | (show kitB "NoneType" "tuple" = some false; decide +kernel)
    | (show kitB "NoneType" "list" = some false; decide +kernel)
    | (show kitB "bool" "int" = some true; decide +kernel)
    | (show kitB "bool" "bool" = some true; decide +kernel)
    | (show kitB "bool" "str" = some false; decide +kernel)
    | (show kitB "bool" "tuple" = some false; decide +kernel)
    | (show kitB "bool" "list" = some false; decide +kernel)
    | (show kitB "int" "int" = some true; decide +kernel)
    | (show kitB "int" "bool" = some false; decide +kernel)
    | (show kitB "int" "str" = some false; decide +kernel)
    | (show kitB "int" "tuple" = some false; decide +kernel)
    | (show kitB "int" "list" = some false; decide +kernel)
    | (show kitB "str" "int" = some false; decide +kernel)
    | (show kitB "str" "bool" = some false; decide +kernel)
    | (show kitB "str" "str" = some true; decide +kernel)
    | (show kitB "str" "tuple" = some false; decide +kernel)
    | (show kitB "str" "list" = some false; decide +kernel)
    | (show kitB "list" "int" = some false; decide +kernel)
    | (show kitB "list" "bool" = some false; decide +kernel)
    | (show kitB "list" "str" = some false; decide +kernel)
    | (show kitB "list" "tuple" = some false; decide +kernel)
    | (show kitB "list" "list" = some true; decide +kernel)
    | (show kitB "tuple" "int" = some false; decide +kernel)
    | (show kitB "tuple" "bool" = some false; decide +kernel)
    | (show kitB "tuple" "str" = some false; decide +kernel)
    | (show kitB "tuple" "tuple" = some true; decide +kernel)
    | (show kitB "tuple" "list" = some false; decide +kernel)
    | (show kitB "dict" "int" = some false; decide +kernel)
    | (show kitB "dict" "bool" = some false; decide +kernel)
    | (show kitB "dict" "str" = some false; decide +kernel)
    | (show kitB "dict" "tuple" = some false; decide +kernel)
    | (show kitB "dict" "list" = some false; decide +kernel)
theorem tyT_boot (t : Ty) : bootBuiltins (tyN t) = some (.type (tyT t)) := by cases t <;> decide +kernel
section
variable {K : KW} {bs : List Nat} {ex : List Addr} {bt : Bt} {st : Store} {H : Hp}
theorem cur_ty (S : SRel K bs ex bt st H) {v : V} {d : D} {p : P} (r : RpD K H ex bt v d) (ns : isScr d = false) (e : Ev.view d st = .ok p st) : TyX K H v (.type (ofP p)) := by
  cases d with
  | p q =>
    cases e
    cases (show Rp K H ex v p from r) with
    | non => exact .base .non
    | bl b => exact .base (.bl b)
    | int i => exact .base (.int i)
    | str x => exact .base (.str x)
    | lst h n _ => exact .base (.lst h)
    | tup h _ =>
      rcases h with (h | ⟨o, h⟩) | ⟨o, its, n, h, hc, _⟩
      · exact .base (.tup h)
      · exact .fTuple h
      · exact .kTuple h hc
    | dct h n => exact .base (.dK h)
  | loc i =>
    rw [view_loc] at e
    split at e
    · rename_i xs hx
      split at e
      · cases e
        obtain ⟨a, vs, h1, h2, h3⟩ := S.obj i xs hx
        rw [r.2 a h1]
        exact .base (.lst h2)
      · cases e
    · cases e
  | scr ns => cases ns
  | iset ns => cases e
  | tset ns => cases e
  | fn f => cases e
end
section
variable {X : Cx} {XR : Nat → Option P → XK → Hp → Prop} {bs : List Nat} {W : WX} {e : Expr} {p p1 p2 pos : Pos} {ma : Env → M D}
theorem kit_any (K : PySem.W.Frag) (d : P) : ∀ ts : List Ty, PySem.W.kitAny K (.type (ofP d)) (ts.map fun t => .type (tyT t)) = some (ts.any (tyP d))
  | [] => rfl
  | t :: ts => by
    refine kitAny_cons (kit_p K d t) (fun h => ?_) fun h => ?_
    · rw [kit_any K d ts, List.any_cons, h]; rfl
    · rw [List.any_cons, h]; rfl
theorem isi_one {t : Ty} (hg : Gl X "isinstance") (hm : X.mg "isinstance" = none) (hg2 : Gl X (tyN t)) (hm2 : X.mg (tyN t) = none) (ha : PE X e (rE X XR bs W ma))
    (hs0 : starEach [e, .Name (tyN t) p2] X.env = (false, eval e X.env) :: starEach [.Name (tyN t) p2] X.env) :
    PE X (.Call (.Name "isinstance" p) [e, .Name (tyN t) p2] [] pos) (rE X XR bs W fun σ => (ma σ).bnd fun x => if isScr x then M.bad else (view x).bnd fun p => M.ret (.p (.bool ([t].any (tyP p))))) := by
  have n1 : tyN t ≠ "__name__" := by cases t <;> decide +kernel
  have n2 : (tyN t == ("__debug__" : Str)) = false := by cases t <;> decide +kernel
  refine (pe_callB call_isi hg hm PyProof.Rows.boot_isinstance (pa_cons ha (pa_cons (pe_bltn (v := .ty (tyT t)) hg2 hm2 (tyT_boot t) rfl n1 n2) pa_nil rfl) hs0) (by decide) (by decide) hs0 rfl).imp fun σ H Q ⟨ex, bt, st, env, S, V, C⟩ => ⟨ex, bt, st, env, S, V, (Cont.bnd S C).mono fun x H1 ⟨d, ex1, bt1, st1, E1, S1, R1, C1⟩ => ?_⟩
  split at C1
  · exact (show False from C1).elim
  · rename_i hn
    obtain ⟨q, c, ev, C2⟩ := Cont.view S1 R1 C1
    refine ⟨x, .ty (tyT t), _, _, _, rfl, .ty _, cur_ty S1 R1 (Bool.not_eq_true _ ▸ hn) ev, kit_p _ q t, C2.val (d := .p (.bool _)) S1 ?_⟩
    rw [show [t].any (tyP q) = tyP q t by simp]
    exact .bl _
theorem isi_two {t u : Ty} {k : Nat} {pt : Pos} (hg : Gl X "isinstance") (hm : X.mg "isinstance" = none) (hg2 : Gl X (tyN t)) (hm2 : X.mg (tyN t) = none) (hg3 : Gl X (tyN u)) (hm3 : X.mg (tyN u) = none) (ha : PE X e (rE X XR bs W ma))
    (hs0 : starEach [e, .Tuple [.Name (tyN t) p1, .Name (tyN u) p2] k pt] X.env = (false, eval e X.env) :: starEach [.Tuple [.Name (tyN t) p1, .Name (tyN u) p2] k pt] X.env) :
    PE X (.Call (.Name "isinstance" p) [e, .Tuple [.Name (tyN t) p1, .Name (tyN u) p2] k pt] [] pos) (rE X XR bs W fun σ => (ma σ).bnd fun x => if isScr x then M.bad else (view x).bnd fun p => M.ret (.p (.bool ([t, u].any (tyP p))))) := by
  have n1 : ∀ t, tyN t ≠ "__name__" := by intro t; cases t <;> decide +kernel
  have n2 : ∀ t, (tyN t == ("__debug__" : Str)) = false := by intro t; cases t <;> decide +kernel
  have tys : PE X (.Tuple [.Name (tyN t) p1, .Name (tyN u) p2] k pt) _ := pe_tup (pa_cons (pe_bltn (v := .ty (tyT t)) hg2 hm2 (tyT_boot t) rfl (n1 t) (n2 t)) (pa_cons (pe_bltn (v := .ty (tyT u)) hg3 hm3 (tyT_boot u) rfl (n1 u) (n2 u)) pa_nil rfl) rfl)
  refine (pe_callB call_isiT hg hm PyProof.Rows.boot_isinstance (pa_cons ha (pa_cons tys pa_nil rfl) hs0) (by decide) (by decide) hs0 rfl).imp fun σ H Q ⟨ex, bt, st, env, S, V, C⟩ => ⟨ex, bt, st, env, S, V, (Cont.bnd S C).mono fun x H1 ⟨d, ex1, bt1, st1, E1, S1, R1, C1⟩ => ?_⟩
  split at C1
  · exact (show False from C1).elim
  · rename_i hn
    refine ⟨by show 2 ≤ sizeLine; decide, fun tp hT => ?_⟩
    have E2 : Ext ex1 bt1 H1 ex1 bt1 (upd H1 tp (.tup [.ty (tyT t), .ty (tyT u)])) := Ext.alloc hT
    have S2 := S1.alloc (o := .tup [.ty (tyT t), .ty (tyT u)]) hT
    obtain ⟨q, c, ev, C2⟩ := Cont.view S2 (RpD.ext S1 E2 R1) (Cont.later S1 E2 C1)
    exact ⟨x, tp, _, _, _, _, rfl, upd_same, .cons (.ty _) (.cons (.ty _) .nil), cur_ty S2 (RpD.ext S1 E2 R1) (Bool.not_eq_true _ ▸ hn) ev, kit_any _ q [t, u], C2.val (d := .p (.bool _)) S2 (.bl _)⟩
end
end Ev

end
section
/-! Ev 20: calls of the text's defs; what leaves a def. -/
namespace Ev
open PySem PySem.Spec PyProof.Rows L2
/-- what a def promises: its evaluation -/
def CallSp (K : KW) (XR : Nat → Option P → XK → Hp → Prop) (m : List D → M D) : Sp := fun vs H Q E =>
  ∃ bs ex bt st ds, SRel K bs ex bt st H ∧ RpDs K H ex bt vs ds ∧ Cont K XR bs E (RpD K) ex bt H (m ds st) Q
section
variable {X : Cx} {XR : Nat → Option P → XK → Hp → Prop} {bs : List Nat} {W : WX} {a b c e : Expr} {es : List Expr} {kws : List Keyword} {pos p : Pos} {ma mb mc : Env → M D} {ms mk : Env → M (List D)} {x : Str} {f : Addr} {fd : FuncData} {ps ks : List Str} {k : Nat} {m : List D → M D}
theorem sndE_call (F : FnG X.prog X.w X.K X.mg X.base (L2.CX X.prog X.w) k f fd ps (CallSp (kw X) XR m)) (hr : Room k X.A) (hg : X.A.guards = some []) (tk : Takes X W) (hgl : Gl X x) (hm : X.mg x = some (.ref f)) (hk : PySem.W.keepIn X.K (.ref f) = true) (hb : Binds X.K fd ps [])
    (ha : PA X (e :: es) (rA X XR bs W ms)) (hdb : (x == ("__debug__" : Str)) = false) (he : starEach (e :: es) X.env = (false, eval e X.env) :: starEach es X.env) (hpl : (backTo pos (starEach es X.env)).any (·.1) = false) :
    PE X (.Call (.Name x p) (e :: es) [] pos) (rE X XR bs W fun σ => (ms σ).bnd m) := by
  refine (pe_callG F hr hg tk hgl hm hk hb ha hdb he hpl).imp fun σ H Q ⟨ex, bt, st, env, S, V, C⟩ => ⟨ex, bt, st, env, S, V, (Cont.bnd S C).mono fun vs H1 ⟨ds, ex1, bt1, st1, E1, S1, R1, C1⟩ => ⟨bs, ex1, bt1, st1, ds, S1, R1, C1⟩⟩
theorem sndE_call0 (F : FnG X.prog X.w X.K X.mg X.base (L2.CX X.prog X.w) k f fd ps (CallSp (kw X) XR m)) (hr : Room k X.A) (hg : X.A.guards = some []) (tk : Takes X W) (hgl : Gl X x) (hm : X.mg x = some (.ref f)) (hk : PySem.W.keepIn X.K (.ref f) = true) (hb : Binds X.K fd ps [])
    (hdb : (x == ("__debug__" : Str)) = false) : PE X (.Call (.Name x p) [] [] pos) (rE X XR bs W fun σ => (M.ret ([] : List D)).bnd m) := by
  refine (pe_callG0 F hr hg tk hgl hm hk hb hdb).imp fun σ H Q ⟨ex, bt, st, env, S, V, C⟩ => ⟨bs, ex, bt, st, [], S, .nil, C⟩
theorem sndE_dict0 : PE X (.Dict [] [] pos) (rE X XR bs W fun _ => M.ret (.p (.dict []))) := by
  refine pe_dnewK.imp fun σ H Q ⟨ex, bt, st, env, S, V, C⟩ => ?_
  exact fun q hn => C.made S hn (.dct upd_same (S.fresh hn))
end
end Ev

end
section
/-! Ev 21: leaving a def. -/
namespace Ev
open PySem PySem.Spec PyProof.Rows L2
section
variable {K : KW} {bs : List Nat} {ex ex' : List Addr} {bt bt' : Bt} {st st' : Store} {H H' : Hp}
/-- the addresses that stay ours: those of the older lists, and keep -/
noncomputable def stay (ex : List Addr) (bt : Bt) (n : Nat) (keep : List Addr) : List Addr := open Classical in ex.filter fun a => decide (some a ∉ bt.drop n ∨ a ∈ keep)
theorem mem_stay {n : Nat} {kp : List Addr} {a : Addr} : a ∈ stay ex bt n kp ↔ a ∈ ex ∧ (some a ∉ bt.drop n ∨ a ∈ kp) := by
  unfold stay
  rw [List.mem_filter]
  simp
theorem get_take {α : Type} {l : List α} {n i : Nat} {x : α} (h : (l.take n)[i]? = some x) : i < n ∧ l[i]? = some x := by
  have hl := (List.getElem?_eq_some_iff.mp h).1
  rw [List.length_take] at hl
  refine ⟨by omega, ?_⟩
  rw [List.getElem?_take] at h
  rw [if_pos (by omega)] at h
  exact h
theorem take_get {α : Type} {l : List α} {n i : Nat} {x : α} (hi : i < n) (h : l[i]? = some x) : (l.take n)[i]? = some x := by
  rw [List.getElem?_take, if_pos hi]; exact h
/-- a place behind n -/
theorem drop_mem {a : Addr} {n : Nat} (h : some a ∈ bt.drop n) : ∃ i, n ≤ i ∧ bt[i]? = some (some a) := by
  obtain ⟨i, hi⟩ := List.mem_iff_getElem?.mp h
  rw [List.getElem?_drop] at hi
  exact ⟨n + i, Nat.le_add_right _ _, hi⟩
theorem Ext.cut {kp : List Addr} (E : Ext ex bt H ex' bt' H') (S : SRel K bs ex bt st H) : Ext ex bt H (stay ex' bt' bt.length kp) (bt'.take bt.length) H' := by
  refine ⟨E.keep, E.dom, fun a h => E.exs a (mem_stay.mp h).1, fun a h => ?_, fun i x h => ?_, fun i a h => ?_⟩
  · rcases E.exk a h with z | z
    · refine .inl (mem_stay.mpr ⟨z, .inl fun q => ?_⟩)
      obtain ⟨i, hi, hg⟩ := drop_mem q
      obtain ⟨o, ho⟩ := S.exH a h
      rcases E.new i a hg with y | ⟨_, y⟩
      · exact absurd (List.getElem?_eq_some_iff.mp y).1 (Nat.not_lt_of_le hi)
      · rw [ho] at y; cases y
    · exact .inr z
  · have hi := (List.getElem?_eq_some_iff.mp h).1
    rcases E.old i x h with z | z
    · exact .inl (take_get hi z)
    · exact .inr (take_get hi z)
  · obtain ⟨hi, h1⟩ := get_take h
    exact E.new i a h1
theorem rpd_cut {n : Nat} {kp : List Addr} {v : V} {d : D} (r : RpD K H ex bt v d) (hd : ∀ j, d = .loc j → j < n) : RpD K H (stay ex bt n kp) (bt.take n) v d := by
  cases d with
  | p d => exact Rp.sub (fun a h => (mem_stay.mp h).1) r
  | loc j =>
    obtain ⟨h1, h2⟩ := r
    have hj := hd j rfl
    exact ⟨by rw [List.length_take]; omega, fun a e => h2 a (get_take e).2⟩
  | scr ns => exact r
  | iset ns =>
    obtain ⟨a, T, e, h1, h2⟩ := r
    exact ⟨a, T, e, fun q => h1 (mem_stay.mp q).1, h2⟩
  | tset ns =>
    obtain ⟨a, T, e, h1, h2⟩ := r
    exact ⟨a, T, e, fun q => h1 (mem_stay.mp q).1, h2⟩
  | fn f => exact r.elim
theorem rpds_cut {n : Nat} {kp : List Addr} : ∀ {vs : List V} {ds : List D}, RpDs K H ex bt vs ds → (∀ j, D.loc j ∈ ds → j < n) → RpDs K H (stay ex bt n kp) (bt.take n) vs ds
  | _, _, .nil, _ => .nil
  | _, _, .cons r t, h => .cons (rpd_cut r fun j e => h j (by rw [e]; exact List.mem_cons_self)) (rpds_cut t fun j hj => h j (List.mem_cons_of_mem _ hj))
/-- the store of the caller -/
theorem SRel.cut {n : Nat} {kp : List Addr} (S : SRel K (n :: bs) ex bt st H) (lo : ∀ b, b ∈ bs → b ≤ n) : SRel K bs (stay ex bt n kp) (bt.take n) (st.take n) H := by
  have hn := S.low n List.mem_cons_self
  have hl := S.len
  refine ⟨by rw [List.length_take, List.length_take, hl], fun b hb => by rw [List.length_take]; have := lo b hb; omega, fun a h => ?_, fun i j a hi hj => S.inj i j a (get_take hi).2 (get_take hj).2, fun a h => S.exH a (mem_stay.mp h).1, fun a h => S.isl a (List.mem_of_mem_take h), fun i xs h => ?_, fun i h => ?_, fun b hb i xs h j hj hlt => S.wf b (List.mem_cons_of_mem _ hb) i xs (get_take h).2 j hj hlt⟩
  · refine mem_stay.mpr ⟨S.live a (List.mem_of_mem_take h), .inl fun q => ?_⟩
    obtain ⟨i, hi, hg⟩ := drop_mem q
    obtain ⟨j, hj⟩ := List.mem_iff_getElem?.mp h
    obtain ⟨hj1, hj2⟩ := get_take hj
    have := S.inj i j a hg hj2
    omega
  · obtain ⟨hi, h1⟩ := get_take h
    obtain ⟨a, vs, h2, h3, h4⟩ := S.obj i xs h1
    exact ⟨a, vs, take_get hi h2, h3, rpds_cut h4 fun j hj => S.wf n List.mem_cons_self i xs h1 j hj hi⟩
  · obtain ⟨hi, h1⟩ := get_take h
    exact take_get hi (S.dead i h1)
end
section
variable {K : KW} {XR : Nat → Option P → XK → Hp → Prop} {bs : List Nat} {ex ex' : List Addr} {bt bt' : Bt} {st st' : Store} {H H' : Hp} {E : XK} {Q : VK}
theorem leave_ok {lo : Bool} {d : D} {v : V} (S : SRel K bs ex bt st H) (X : Ext ex bt H ex' bt' H') (S' : SRel K (st.length :: bs) ex' bt' st' H') (r : RpD K H' ex' bt' v d)
    (C : Cont K XR bs E (RpD K) ex bt H (leave lo st d st') Q) : Q v H' := by
  have hlow : ∀ b, b ∈ bs → b ≤ st.length := S.low
  have hn := S.len
  have cutS := SRel.cut (kp := []) S' hlow
  have cutE : Ext ex bt H (stay ex' bt' st.length []) (bt'.take st.length) H' := by
    have := X.cut (kp := []) S
    rw [hn] at this
    exact this
  cases d with
  | p d => exact C v H' _ _ cutE cutS (rpd_cut (d := .p d) r fun j e => by cases e)
  | scr ns => exact C v H' _ _ cutE cutS (rpd_cut (d := .scr ns) r fun j e => by cases e)
  | iset ns => exact C v H' _ _ cutE cutS (rpd_cut (d := .iset ns) r fun j e => by cases e)
  | tset ns => exact C v H' _ _ cutE cutS (rpd_cut (d := .tset ns) r fun j e => by cases e)
  | fn f => exact r.elim
  | loc i =>
    unfold leave at C
    dsimp only at C
    split at C
    · rename_i hi
      exact C v H' _ _ cutE cutS (rpd_cut (d := .loc i) r fun j e => by cases e; exact hi)
    · rename_i hi
      split at C
      · rename_i xs hx
        split at C
        · rename_i ps hp
          obtain ⟨a, vs, h1, h2, h3⟩ := S'.obj i xs hx
          have hv := r.2 a h1
          subst hv
          have hnew : H a = none := by
            rcases X.new i a h1 with y | ⟨_, y⟩
            · exact absurd (List.getElem?_eq_some_iff.mp y).1 (by omega)
            · exact y
          have rps := pures_loc hp h3
          split at C
          · -- as a list
            have cS := SRel.cut (kp := [a]) S' hlow
            have cE : Ext ex bt H (stay ex' bt' st.length [a]) (bt'.take st.length) H' := by
              have := X.cut (kp := [a]) S
              rw [hn] at this
              exact this
            have nb : some a ∉ bt'.take st.length := fun q => by
              obtain ⟨j, hj⟩ := List.mem_iff_getElem?.mp q
              obtain ⟨hj1, hj2⟩ := get_take hj
              have := S'.inj i j a h1 hj2
              omega
            have hin : a ∈ stay ex' bt' st.length [a] := mem_stay.mpr ⟨S'.live a (List.mem_of_getElem? h1), .inr List.mem_cons_self⟩
            have xr : RpDs K H' (stay ex' bt' st.length [a]) (bt'.take st.length) vs xs := rpds_cut h3 fun j hj => by
              exfalso
              have : ∀ (l : List D) (qs : List P), pures l = some qs → D.loc j ∉ l := by
                intro l
                induction l with
                | nil => exact fun _ _ => List.not_mem_nil
                | cons y l ih =>
                  intro qs hq hm
                  cases y with
                  | p y =>
                    rcases List.mem_cons.mp hm with z | z
                    · cases z
                    · simp only [pures, Option.map_eq_some_iff] at hq
                      obtain ⟨q2, h, _⟩ := hq
                      exact ih q2 h z
                  | _ => simp [pures] at hq
              exact this xs ps hp hj
            have pS := cS.push h2 hin nb xr
            refine C _ H' _ _ (cE.push hnew) pS ⟨by rw [List.length_append, List.length_take, S'.len]; have := S'.low st.length List.mem_cons_self; simp; omega, fun b hb => ?_⟩
            have hl2 : (bt'.take st.length).length = st.length := by rw [List.length_take, S'.len]; have := S'.low st.length List.mem_cons_self; omega
            rw [List.getElem?_append_right (by omega), hl2, Nat.sub_self] at hb
            cases hb; rfl
          · refine C _ H' _ _ cutE cutS (.lst h2 (fun q => ?_) (Rps.sub (fun b h => (mem_stay.mp h).1) rps))
            rcases (mem_stay.mp q).2 with z | z
            · refine z (List.mem_iff_getElem?.mpr ⟨i - st.length, ?_⟩)
              rw [List.getElem?_drop, show st.length + (i - st.length) = i by omega]
              exact h1
            · cases z
        · exact (show False from C).elim
      · exact (show False from C).elim
end
end Ev

end
section
/-! Ev 22: a def's promise from its body's. -/
namespace Ev
open PySem PySem.Spec PyProof.Rows L2
theorem paired_mem {α β : Type} {R : α → β → Prop} : ∀ {as : List α} {bs : List β} {b : β}, Paired R as bs → b ∈ bs → ∃ a, R a b
  | _, _, _, .nil, h => by cases h
  | _, _, _, .cons r t, h => by
    rcases List.mem_cons.mp h with e | e
    · exact ⟨_, e ▸ r⟩
    · exact paired_mem t e
theorem SRel.enter {K : KW} {bs : List Nat} {ex : List Addr} {bt : Bt} {st : Store} {H : Hp} (S : SRel K bs ex bt st H) : SRel K (st.length :: bs) ex bt st H := by
  refine ⟨S.len, fun b hb => ?_, S.live, S.inj, S.exH, S.isl, S.obj, S.dead, fun b hb i xs h j hj hlt => ?_⟩
  · rcases List.mem_cons.mp hb with e | e
    · rw [e]; exact Nat.le_refl _
    · exact S.low b e
  · rcases List.mem_cons.mp hb with e | e
    · obtain ⟨a, vs, h1, h2, h3⟩ := S.obj i xs h
      obtain ⟨v, r⟩ := paired_mem h3 hj
      have := r.1
      have := S.len
      omega
    · exact S.wf b e i xs h j hj hlt
theorem envR_start {K : KW} {H : Hp} {ex : List Addr} {bt : Bt} {N : List Str} {vs : List L2.V} {ds : List D} {n : Nat} (r : RpDs K H ex bt vs ds) (hn : n = N.length - vs.length) : EnvR K H ex bt (ds.map some ++ List.replicate n none) (L2.start N vs) := by
  have hl := rpds_len r
  unfold L2.start
  subst hn
  refine ⟨by simp [hl], fun i d h => ?_⟩
  by_cases hi : i < ds.length
  · rw [List.getElem?_append_left (by rw [List.length_map]; exact hi), List.getElem?_map] at h
    rw [List.getElem?_append_left (by rw [List.length_map]; omega), List.getElem?_map]
    have : ∀ {vs : List L2.V} {ds : List D} (i : Nat), RpDs K H ex bt vs ds → ds[i]? = some d → ∃ v, vs[i]? = some v ∧ RpD K H ex bt v d := by
      intro vs ds i r
      induction r generalizing i with
      | nil => intro h; cases h
      | cons q t ih =>
        intro h
        cases i with
        | zero => cases h; exact ⟨_, rfl, q⟩
        | succ i => exact ih i h
    cases e : ds[i]? with
    | none => rw [e] at h; cases h
    | some d' =>
      rw [e] at h
      cases h
      obtain ⟨v, h1, h2⟩ := this i r e
      exact ⟨v, by rw [h1]; rfl, h2⟩
  · rw [List.getElem?_append_right (by rw [List.length_map]; omega)] at h
    have := List.mem_of_getElem? h
    rw [List.mem_replicate] at this
    cases this.2
theorem callF_succ (T : Tab) (L : Nat → Bool) (k : Nat) : callF T L (k + 1) = fun f xs => match T f with
    | none => M.bad
    | some d => fun s => if xs.length = d.ps then
      (match evSs (callF T L k) s.length d.body (xs.map some ++ List.replicate (d.ns - d.ps) none) s with
      | .rt d s' => leave (L f) s d s'
      | .nx _ s' => leave (L f) s (.p .none) s'
      | .exn c v _ s' => .exn c v (s'.take s.length)
      | .bad => .bad) else .bad := rfl
/-- a def, its text and its evaluation -/
theorem fn_sound {pr : Program} {w : World} {K : PySem.W.Frag} {mg : Str → Option Value} {base : Heap} {XR : Nat → Option P → XK → Hp → Prop} {k : Nat} {f : Addr} {name qual : Str} {params : Arguments} {body : List Stmt} {scope : Scope} {dV kV doc pm cdv ct oc : Value} {an od : Option Addr}
    {osl : Array (Option Value)} {N ps : List Str} {T : Tab} {L : Nat → Bool} {n fi : Nat} {d : FD} (lk : K.lookup f = some ⟨oc, od, .func (PySem.W.fnOf name qual params body scope dV kV doc pm an cdv ct), osl⟩) (hcd : PySem.W.codeIn K cdv qual = true) (S : FnScope N ps scope)
    (hT : T fi = some d) (hp : d.ps = ps.length) (hns : d.ns = N.length)
    (hbody : ∀ (A : Around) (outer : List PySem.Env) (s : Shared) (H : Hp) (E : XK), Room k (A.deeper (envOfC qual scope s.heap.objs.size f cdv)) → (A.deeper (envOfC qual scope s.heap.objs.size f cdv)).guards = some [] → ∀ (bs : List Nat) (b0 : Nat), (∀ b, b ∈ bs → b ≤ b0) →
      PSs (cxOf (L2.CX pr w) pr w K mg base N qual scope f cdv A outer s H E) body (rS (cxOf (L2.CX pr w) pr w K mg base N qual scope f cdv A outer s H E) XR bs (fun c d σ H => E c d H) (evSs (callF T L n) b0 d.body))) :
    FnG pr w K mg base (L2.CX pr w) (k + 1) f (PySem.W.fnOf name qual params body scope dV kV doc pm an cdv ct) ps (CallSp ⟨K, w, pr⟩ XR (callF T L (n + 1) fi)) := by
  have open1 : ∀ ds st, callF T L (n + 1) fi ds st = (if ds.length = d.ps then
      (match evSs (callF T L n) st.length d.body (ds.map some ++ List.replicate (d.ns - d.ps) none) st with
      | .rt v s' => leave (L fi) st v s'
      | .nx _ s' => leave (L fi) st (.p .none) s'
      | .exn c v _ s' => .exn c v (s'.take st.length)
      | .bad => .bad) else .bad) := fun ds st => by
    have e := callF_succ T L n
    rw [e]
    simp only [hT]
  refine fnG_of lk hcd S (fun vs H Q E ⟨bs, ex, bt, st, ds, S0, R0, C⟩ => ?_) fun A outer s H vs Q E hr hg ⟨bs, ex, bt, st, ds, S0, R0, C⟩ => ?_
  · rw [open1] at C
    split at C
    · rename_i hl
      rw [rpds_len R0, hl, hp]
    · exact (show False from C).elim
  · rw [open1] at C
    split at C
    · rename_i hl
      refine ⟨_, hbody A outer s H E hr hg (st.length :: bs) st.length (fun b hb => ?_), ex, bt, st, _, S0.enter, envR_start (n := d.ns - d.ps) R0 (by rw [hns, rpds_len R0, hl]), ?_⟩
      · rcases List.mem_cons.mp hb with e | e
        · rw [e]; exact Nat.le_refl _
        · exact S0.low b e
      · revert C
        have cutE : ∀ {H' : Hp} {ex' : List Addr} {bt' : Bt}, Ext ex bt H ex' bt' H' → Ext ex bt H (stay ex' bt' st.length []) (bt'.take st.length) H' := fun X' => by
          have := X'.cut (kp := []) S0
          rw [S0.len] at this
          exact this
        cases evSs (callF T L n) st.length d.body (ds.map some ++ List.replicate (d.ns - d.ps) none) st with
        | nx env s' => exact fun C σ H' ex' bt' X' S' V' => leave_ok S0 X' S' (v := .non) (d := .p .none) (show Rp _ _ _ _ _ from .non) C
        | rt v s' => exact fun C u H' ex' bt' X' S' r' => leave_ok S0 X' S' r' C
        | exn c v env s' => exact fun C σ H' ex' bt' X' S' V' => C H' _ _ (cutE X') (S'.cut S0.low)
        | bad => exact id
    · exact (show False from C).elim
end Ev

end
section
/-! Ev 23: is a program text this own text? -/
namespace Ev
open PySem PySem.Spec PyProof.Rows L2
/-- what a text's module gives: defs by name and number; keyword calls; constants; names left to the built-ins -/
structure Cf where
  fns : List (Str × Nat)
  kws : List (Nat × List Str × Nat × List Nat)
  cons : List (Str × P)
  free : List Str
/-- where an expression stands -/
structure Pl where
  sc : Scope
  cel : Str → Bool
mutual
def samP : P → P → Bool
  | .none, .none => true
  | .bool a, .bool b => a == b
  | .int a, .int b => decide (a = b)
  | .str a, .str b => decide (a = b)
  | .list a, .list b => samPs a b
  | .tuple a, .tuple b => samPs a b
  | .dict [], .dict [] => true
  | _, _ => false
def samPs : List P → List P → Bool
  | [], [] => true
  | a :: as, b :: bs => samP a b && samPs as bs
  | _, _ => false
end
mutual
theorem samP_eq : ∀ {a b : P}, samP a b = true → a = b
  | .none, b, h => by cases b <;> first | rfl | (simp [samP] at h)
  | .bool a, b, h => by cases b <;> first | (simp [samP] at h; rw [h]) | (simp [samP] at h)
  | .int a, b, h => by cases b <;> first | (simp [samP] at h; rw [h]) | (simp [samP] at h)
  | .str a, b, h => by cases b <;> first | (simp [samP] at h; rw [h]) | (simp [samP] at h)
  | .list a, b, h => by cases b <;> first | (simp only [samP] at h; rw [samPs_eq h]) | (simp [samP] at h)
  | .tuple a, b, h => by cases b <;> first | (simp only [samP] at h; rw [samPs_eq h]) | (simp [samP] at h)
  | .dict a, b, h => by
    cases b with
    | dict b => cases a <;> cases b <;> first | rfl | (simp [samP] at h)
    | _ => cases a <;> simp [samP] at h
theorem samPs_eq : ∀ {a b : List P}, samPs a b = true → a = b
  | [], [], _ => rfl
  | a :: as, b :: bs, h => by
    simp only [samPs, Bool.and_eq_true] at h
    rw [samP_eq h.1, samPs_eq h.2]
  | [], _ :: _, h => by simp [samPs] at h
  | _ :: _, [], h => by simp [samPs] at h
end
def visB (sc : Scope) (x : Str) : Bool := match sc.names.lookup x with
  | some .local => true
  | some .cell => true
  | some .free => true
  | _ => false
def glB (sc : Scope) (x : Str) : Bool := match sc.names.lookup x with
  | some .globalImplicit => true
  | _ => false
def locB (sc : Scope) (x : Str) : Bool := match sc.names.lookup x with
  | some .local => true
  | _ => false
def stoB (q : Pl) (x : Str) : Bool := match q.sc.names.lookup x with
  | some .local => true
  | some .cell => q.cel x
  | _ => false
def plainN (x : Str) : Bool := !(x == ("__debug__" : Str)) && !(x == ("__classdict__" : Str))
theorem visB_ok {sc : Scope} {x : Str} (h : visB sc x = true) : Vis sc x := by
  unfold visB at h
  split at h <;> first | (cases h; done) | (rename_i e; first | exact .inl e | exact .inr (.inl e) | exact .inr (.inr e))
theorem glB_ok {sc : Scope} {x : Str} (h : glB sc x = true) : sc.names.lookup x = some .globalImplicit := by
  unfold glB at h
  split at h <;> first | assumption | (cases h; done)
theorem locB_ok {sc : Scope} {x : Str} (h : locB sc x = true) : sc.names.lookup x = some .local := by
  unfold locB at h
  split at h <;> first | assumption | (cases h; done)
def conP : Const → P → Bool
  | .none, .none => true
  | .bool a, .bool b => a == b
  | .int a, .int b => decide (a = b)
  | .str a, .str b => decide (a = b)
  | _, _ => false
def isStar : Expr → Bool
  | .Starred _ _ => true
  | _ => false
def isSet : Expr → Bool
  | .Set _ _ _ => true
  | _ => false
def isSlc : Expr → Bool
  | .Slice _ _ _ _ => true
  | _ => false
def isCompE : Expr → Bool
  | .ListComp .. => true
  | .SetComp .. => true
  | .DictComp .. => true
  | _ => false
def callPlain : Expr → Bool
  | .Call (.Name _ _) [] [] _ => false
  | _ => true
def testPlain : Expr → Bool
  | .UnaryOp .Not _ _ => false
  | .BoolOp _ _ _ => false
  | .IfExp _ _ _ _ => false
  | .Compare _ _ _ _ => false
  | _ => true
section
variable {env : PySem.Env} {a : Expr} {es : List Expr}
theorem star_cons (h : isStar a = false) (es : List Expr) (env : PySem.Env) : starEach (a :: es) env = (false, eval a env) :: starEach es env := by
  cases a <;> first | rfl | (simp [isStar] at h)
theorem asg_cons (h : isStar a = false) (es : List Expr) (env : PySem.Env) : assignEach (a :: es) env = (false, assign a env) :: assignEach es env := by
  cases a <;> first | rfl | (simp [isStar] at h)
theorem noset_fold (h : isSet a = false) (env : PySem.Env) (x : Value) : foldedSetIterable a env x = pure x := by
  cases a <;> first | rfl | (simp [isSet] at h)
theorem noset_marks (h : isSet a = false) (op : CmpOp) : behindInMarks op a = false := by
  cases a <;> first | rfl | (simp [isSet] at h)
theorem slc_ix (h : isSlc a = false) : PlainIx a := by
  cases a <;> first | exact fun _ _ => rfl | (simp [isSlc] at h)
theorem test_plain (h : testPlain a = true) (env : PySem.Env) (whole : Sem Value) : isTrue a env whole = (do let v ← whole; standAt a.pos; holding [v] (truthy v)) := by
  cases a with
  | UnaryOp op x p => cases op <;> first | rfl | (simp [testPlain] at h)
  | BoolOp _ _ _ => simp [testPlain] at h
  | IfExp _ _ _ _ => simp [testPlain] at h
  | Compare _ _ _ _ => simp [testPlain] at h
  | _ => rfl
theorem call_plain (h : callPlain a = true) (n : Str) (env : PySem.Env) : attributeBase a n env (eval a env) = eval a env := by
  cases a with
  | Call f as ks p =>
    cases f <;> first
      | rfl
      | (cases as with
        | nil => cases ks with
          | nil => simp [callPlain] at h
          | cons k ks => rfl
        | cons x xs => rfl)
  | _ => rfl
def noStar : List Expr → Bool
  | [] => true
  | a :: as => !isStar a && noStar as
theorem nostar_any : ∀ {es : List Expr}, noStar es = true → ∀ (pos : Pos) (env : PySem.Env), (backTo pos (starEach es env)).any (·.1) = false
  | [], _, _, _ => rfl
  | a :: as, h, pos, env => by
    simp only [noStar, Bool.and_eq_true, Bool.not_eq_true'] at h
    rw [star_cons h.1]
    have := nostar_any h.2 pos env
    simpa [backTo] using this
theorem nostar_all {es : List Expr} (h : noStar es = true) (pos : Pos) (env : PySem.Env) : (backTo pos (starEach es env)).all (fun x => !x.1) = true := by
  have := nostar_any h pos env
  rw [List.all_eq_true]
  intro x hx
  rw [List.any_eq_false] at this
  simpa using this x hx
end
def bopB (o : Bop) (op : Operator) : Bool := decide (bopOf o = op)
def copB (o : Cop) (op : CmpOp) : Bool := decide (copOf o = op)
/-- the names that a comprehension's target binds, with their places -/
def ownOf (N : List Str) (ws : List Nat) : List (Str × Nat) := ws.filterMap fun i => (N[i]?).map fun x => (x, i)
/-- the scope that runs in a block -/
def relS (scope sc : Scope) : Scope := { scope with names := scope.names.map fun (n, k) => if (k == NameKind.free && sc.kind == .function && sc.names.lookup n == some .cell) then (n, NameKind.cell) else (n, k) }
def blkP (scope : Scope) (q : Pl) : Pl := ⟨relS scope q.sc, fun x => scope.names.lookup x == some .cell⟩
theorem blk_scope (scope : Scope) (cl : List (Str × Addr)) (C : Addr) (env : PySem.Env) : (compEnvC scope cl C env).scope = relS scope env.scope := rfl
end Ev

end
section
/-! Ev 24: the check. -/
namespace Ev
open PySem PySem.Spec PyProof.Rows L2
/-- targets that are names; one of them with a star -/
def okNms (N : List Str) (q : Pl) (ws : List Nat) : List Expr → Tgs → Bool
  | [], .nil => true
  | .Name x _ :: r, .cons (.name i) ts => decide (N[i]? = some x) && stoB q x && decide (i ∈ ws) && okNms N q ws r ts
  | _, _ => false
def okStN (N : List Str) (q : Pl) (ws : List Nat) (i : Nat) (us : Tgs) : List Expr → Tgs → Bool
  | .Starred (.Name x _) _ :: r, .nil => decide (N[i]? = some x) && stoB q x && decide (i ∈ ws) && okNms N q ws r us
  | .Name x _ :: r, .cons (.name j) ts => decide (N[j]? = some x) && stoB q x && decide (j ∈ ws) && okStN N q ws i us r ts
  | _, _ => false
def freeB (c : Cf) (q : Pl) (x : Str) : Bool := glB q.sc x && c.free.contains x
def lineB (a p : Pos) : Bool := a.endLine == p.line
mutual
def okE (c : Cf) (N : List Str) : Nat → Pl → Expr → E → Bool
  | 0, _, _, _ => false
  | n + 1, q, e, a => match a with
    | .var i => (match e with
      | .Name x _ => decide (N[i]? = some x) && visB q.sc x && plainN x
      | _ => false)
    | .lit d => (match e with
      | .Name x _ => glB q.sc x && plainN x && (match c.cons.lookup x with
        | some d' => samP d' d
        | none => false)
      | .Constant k _ _ => conP k d
      | .Dict [] [] _ => (match d with
        | .dict [] => true
        | _ => false)
      | _ => false)
    | .neg a => (match e with
      | .UnaryOp .USub x _ => okE c N n q x a
      | _ => false)
    | .not a => (match e with
      | .UnaryOp .Not x _ => okE c N n q x a
      | _ => false)
    | .bin o a b => (match e with
      | .BinOp x op y _ => bopB o op && okE c N n q x a && okE c N n q y b
      | _ => false)
    | .cmp o a b => (match e with
      | .Compare x [op] [y] _ => copB o op && !isSet y && okE c N n q x a && okE c N n q y b
      | _ => false)
    | .chain o o' a b d => (match e with
      | .Compare x [op, op'] [y, z] _ => copB o op && copB o' op' && !isSet z && okE c N n q x a && okE c N n q y b && okE c N n q z d
      | _ => false)
    | .and a b => (match e with
      | .BoolOp .And (x :: y :: r) p => okE c N n q x a && (match r with
        | [] => okE c N n q y b
        | _ => okE c N n q (.BoolOp .And (y :: r) p) b)
      | _ => false)
    | .or a b => (match e with
      | .BoolOp .Or (x :: y :: r) p => okE c N n q x a && (match r with
        | [] => okE c N n q y b
        | _ => okE c N n q (.BoolOp .Or (y :: r) p) b)
      | _ => false)
    | .ite t a b => (match e with
      | .IfExp z x y _ => okE c N n q z t && okE c N n q x a && okE c N n q y b
      | _ => false)
    | .tup es => (match e with
      | .Tuple xs _ _ => okEs c N n q xs es
      | _ => false)
    | .lst es => (match e with
      | .List xs _ => okEs c N n q xs es
      | _ => false)
    | .idx a i => (match e with
      | .Subscript x y _ => !isSlc y && okE c N n q x a && okE c N n q y i
      | _ => false)
    | .slc a lo hi => (match e with
      | .Subscript x (.Slice l h none _) _ => okE c N n q x a && okO c N n q l lo && okO c N n q h hi
      | _ => false)
    | .rev a => (match e with
      | .Subscript x (.Slice none none (some (.UnaryOp .USub (.Constant (.int i) _ _) _)) _) _ => decide (i = 1) && okE c N n q x a
      | _ => false)
    | .call f es => (match e with
      | .Call (.Name x _) xs [] _ => glB q.sc x && plainN x && decide (c.fns.lookup x = some f) && noStar xs && okEs c N n q xs es
      | _ => false)
    | .callk f pm es ks => (match e with
      | .Call (.Name x _) xs ks' _ => glB q.sc x && plainN x && decide (c.fns.lookup x = some f) && noStar xs && ks'.all (·.arg.isSome) && noStar (ks'.map (·.value)) && decide ((f, ks'.filterMap (·.arg), xs.length, pm) ∈ c.kws) && okEs c N n q xs es && okEs c N n q (ks'.map (·.value)) ks
      | _ => false)
    | .blt o es => (match e with
      | .Call (.Name x _) (y :: xs) [] _ => decide (x = bltN o) && freeB c q x && noStar (y :: xs) && okEs c N n q (y :: xs) es
      | _ => false)
    | .mth m o es => (match e with
      | .Call (.Attribute y nm ap) xs [] p => decide (nm = mthN m) && mthHas m && callPlain y && lineB ap p && decide (xs.length < 30) && noStar xs && okE c N n q y o && okEs c N n q xs es
      | _ => false)
    | .isi a ts => (match e with
      | .Call (.Name x _) [y, z] [] _ => decide (x = ("isinstance" : Str)) && freeB c q x && !isStar y && okE c N n q y a && (match ts, z with
        | [t], .Name u _ => decide (u = tyN t) && freeB c q u
        | [t, t'], .Tuple [.Name u _, .Name u' _] _ _ => decide (u = tyN t) && freeB c q u && decide (u' = tyN t') && freeB c q u'
        | _, _ => false)
      | _ => false)
    | .comp a t it k => (match e with
      | .ListComp x [⟨tg, iter, ifs, isAsync⟩] scope _ => decide (isAsync = 0) && okCo c N n q x a tg t iter it ifs k scope
      | _ => false)
    | .compV a t i k => (match e with
      | .ListComp x [⟨tg, .Name y py, ifs, isAsync⟩] scope _ => decide (isAsync = 0) && okCo c N n q x a tg t (.Name y py) (.e (.var i)) ifs k scope && decide (N[i]? = some y) && visB q.sc y && plainN y
      | _ => false)
    | .setc a t it k => (match e with
      | .SetComp x [⟨tg, iter, ifs, isAsync⟩] scope _ => decide (isAsync = 0) && okCo c N n q x a tg t iter it ifs k scope
      | _ => false)
    | .comp2 a t it k t' it' k' => (match e with
      | .ListComp x [⟨tg, iter, ifs, isAsync⟩, ⟨tg1, iter1, ifs1, isAsync1⟩] scope _ => decide (isAsync = 0) && decide (isAsync1 = 0) && okCo2 c N n q x a tg t iter it ifs k tg1 t' iter1 it' ifs1 k' scope
      | _ => false)
    | .lstI (.rng1 a) => (match e with
      | .Call (.Name x _) [.Call (.Name r _) [y] [] _] [] _ => decide (x = ("list" : Str)) && freeB c q x && decide (r = ("range" : Str)) && freeB c q r && !isStar y && okE c N n q y a
      | _ => false)
    | .tupI (.rng1 a) => (match e with
      | .Call (.Name x _) [.Call (.Name r _) [y] [] _] [] _ => decide (x = ("tuple" : Str)) && freeB c q x && decide (r = ("range" : Str)) && freeB c q r && !isStar y && okE c N n q y a
      | _ => false)
    | .opn (.lstI (.rng1 a)) => (match e with
      | .Call (.Name x _) [.Call (.Name r _) [y] [] _] [] _ => decide (x = ("list" : Str)) && freeB c q x && decide (r = ("range" : Str)) && freeB c q r && !isStar y && okE c N n q y a
      | _ => false)
    | .opn (.comp a t it k) => (match e with
      | .ListComp x [⟨tg, iter, ifs, isAsync⟩] scope _ => decide (isAsync = 0) && okCo c N n q x a tg t iter it ifs k scope
      | _ => false)
    | .opn (.lst .nil) => (match e with
      | .List [] _ => true
      | _ => false)
    | .opn (.bin .add a b) => (match e with
      | .BinOp x .Add y _ => okE c N n q x a && okE c N n q y b
      | _ => false)
    | .stop => true
    | _ => false
def okCo (c : Cf) (N : List Str) : Nat → Pl → Expr → E → Expr → Tg → Expr → I → List Expr → Eo → Scope → Bool
  | 0, _, _, _, _, _, _, _, _, _, _ => false
  | n + 1, q, x, a, tg, t, iter, it, ifs, k, scope => blkC N q.sc scope (ownOf N (slotsT t)) && !isSet iter && okI c N n q tg iter it && okTg c N n (blkP scope q) ((ownOf N (slotsT t)).map (·.2)) tg t && okE c N n (blkP scope q) x a && (match ifs, k with
    | [], .none => true
    | [y], .some b => okE c N n (blkP scope q) y b
    | _, _ => false)
def okCo2 (c : Cf) (N : List Str) : Nat → Pl → Expr → E → Expr → Tg → Expr → I → List Expr → Eo → Expr → Tg → Expr → I → List Expr → Eo → Scope → Bool
  | 0, _, _, _, _, _, _, _, _, _, _, _, _, _, _, _, _ => false
  | n + 1, q, x, a, tg, t, iter, it, ifs, k, tg1, t', iter1, it', ifs1, k', scope => blkC N q.sc scope (ownOf N (slotsT t ++ slotsT t')) && !isSet iter && !isSet iter1 && okI c N n q tg iter it && okTg c N n (blkP scope q) ((ownOf N (slotsT t ++ slotsT t')).map (·.2)) tg t && okI c N n (blkP scope q) tg1 iter1 it' && okTg c N n (blkP scope q) ((ownOf N (slotsT t')).map (·.2)) tg1 t' && okE c N n (blkP scope q) x a && (match ifs, k with
    | [], .none => true
    | [y], .some b => okE c N n (blkP scope q) y b
    | _, _ => false) && (match ifs1, k' with
    | [], .none => true
    | [y], .some b => okE c N n (blkP scope q) y b
    | _, _ => false)
def okEs (c : Cf) (N : List Str) : Nat → Pl → List Expr → Es → Bool
  | 0, _, _, _ => false
  | n + 1, q, xs, es => match es with
    | .nil => xs.isEmpty
    | .cons a es => (match xs with
      | x :: xs => !isStar x && okE c N n q x a && okEs c N n q xs es
      | _ => false)
    | .star a es => (match xs with
      | .Starred x _ :: xs => okE c N n q x a && okEs c N n q xs es
      | _ => false)
def okO (c : Cf) (N : List Str) : Nat → Pl → Option Expr → Eo → Bool
  | 0, _, _, _ => false
  | n + 1, q, x, a => match a with
    | .none => x.isNone
    | .some a => (match x with
      | some x => okE c N n q x a
      | none => false)
def okI (c : Cf) (N : List Str) : Nat → Pl → Expr → Expr → I → Bool
  | 0, _, _, _, _ => false
  | n + 1, q, tg, e, a => match a with
    | .e a => okE c N n q e a
    | .rng1 a => (match e with
      | .Call (.Name x _) [y] [] _ => decide (x = ("range" : Str)) && freeB c q x && !isStar y && okE c N n q y a
      | _ => false)
    | .rng2 a b => (match e with
      | .Call (.Name x _) [y, z] [] _ => decide (x = ("range" : Str)) && freeB c q x && !isStar y && !isStar z && okE c N n q y a && okE c N n q z b
      | _ => false)
    | .enum a => (match e, tg with
      | .Call (.Name x _) [y] [] _, .Tuple _ _ _ => decide (x = ("enumerate" : Str)) && freeB c q x && !isStar y && okE c N n q y a
      | _, _ => false)
    | .zip a b => (match e, tg with
      | .Call (.Name x _) [y, z] [] _, .Tuple _ _ _ => decide (x = ("zip" : Str)) && freeB c q x && !isStar y && !isStar z && okE c N n q y a && okE c N n q z b
      | _, _ => false)
    | .rev a => (match e with
      | .Call (.Name x _) [y] [] _ => decide (x = ("reversed" : Str)) && freeB c q x && !isStar y && okE c N n q y a
      | _ => false)
def okTg (c : Cf) (N : List Str) : Nat → Pl → List Nat → Expr → Tg → Bool
  | 0, _, _, _, _ => false
  | n + 1, q, ws, e, t => match t with
    | .name i => (match e with
      | .Name x _ => decide (N[i]? = some x) && stoB q x && decide (i ∈ ws)
      | _ => false)
    | .tup ts => (match e with
      | .Tuple xs _ _ => noStar xs && decide (xs.length = lenTs ts) && okTgs c N n q ws xs ts
      | _ => false)
    | .sub a i => (match e with
      | .Subscript x y _ => !isSlc y && okE c N n q x a && okE c N n q y i
      | _ => false)
    | .star ts i us => (match e with
      | .Tuple xs _ _ => okStN N q ws i us xs ts
      | _ => false)
def okTgs (c : Cf) (N : List Str) : Nat → Pl → List Nat → List Expr → Tgs → Bool
  | 0, _, _, _, _ => false
  | n + 1, q, ws, xs, ts => match ts with
    | .nil => xs.isEmpty
    | .cons t ts => (match xs with
      | x :: xs => !isStar x && okTg c N n q ws x t && okTgs c N n q ws xs ts
      | _ => false)
end
end Ev

end
section
/-! Ev 35: targets with a star, names alone. -/
namespace Ev
open PySem PySem.Spec PyProof.Rows L2
section
variable {prog : Program} {w : World} {A : Around} {E : Value → Shared → Prop} {s : Shared}
theorem star_items {l : Addr} {us : Array Value} {n i : Nat} {Q : List Value → Shared → Prop} (tl : IsTup s.heap l us) (hh : A.handled = none) (hi : i < n) (hn : n ≤ us.size + 1) (hz : us.size ≤ sizeLine)
    (h : ∀ (h' : Heap) (tk : Nat), (∀ b o, s.heap.get? b = some o → h'.get? b = some o) →
      Q (us.toList.take i ++ [.ref h'.objs.size] ++ (us.toList.drop i).drop (us.size + 1 - n)) { s with heap := h'.push { cls := .type "list", data := .seq ((us.toList.drop i).take (us.size + 1 - n)).toArray }, toks := tk }) :
    wpAny (model prog w) A (unpackItems (.ref l) n (some i)) Q E s := by
  have far : l ≠ s.heap.objs.size := by obtain ⟨o, ho, _⟩ := tl; exact Nat.ne_of_lt (Heap.lt_size ho)
  unfold unpackItems
  refine wpAny_bind ?_
  unfold notIterableAtAll
  refine wpAny_bind (wpAny_specialOf tl.typeIs slot_tuple_iter.lookup ?_)
  refine wpAny_pure ?_
  simp only [Bool.false_eq_true, if_false]
  refine wpAny_bind (wpAny_holding (iter_tuple tl ?_))
  refine wpAny_bind (wpAny_holding (draw_tuple far i 0 _ _ ⟨_, Heap.get?_push_size _ rfl, rfl, rfl⟩ (tl.push _) (by omega) fun h1 it1 hs1 => ?_))
  have tl1 : IsTup h1 l us := (tl.push _).extBut hs1.extBut far
  rw [Nat.zero_add] at it1
  have it1' := it1
  obtain ⟨oi, hoi, _⟩ := it1'
  have tl1' := tl1
  obtain ⟨ol, hol, _⟩ := tl1'
  rw [List.drop_zero]
  have fl : (us.toList.take i).length = i := by rw [List.length_take, Array.length_toList]; omega
  rw [if_neg (show ¬ ((us.toList.take i).length < i) by rw [fl]; omega)]
  refine wpAny_bind (wpAny_holding (PySem.W.kun_collect (s := { s with heap := h1 }) (T := "tuple_iterator") (.inr (.inr (.inr rfl))) (Walks.tuple (A := A.in1) hh s.heap.objs.size l far us) (fun j u st => st.1.typeIs) (k := i) (by omega) ⟨it1, tl1⟩ (Heap.lt_size hoi) (Heap.lt_size hol) (fun h2 tk hk => ?_) hz))
  have rl : (us.toList.drop i).length = us.size - i := by rw [List.length_drop, Array.length_toList]
  have md : (us.toList.drop i).length - (n - 1 - i) = us.size + 1 - n := by rw [rl]; omega
  show wpAny _ _ (if (us.toList.drop i).length < n - 1 - i then _ else _) _ _ _
  rw [if_neg (by rw [rl]; omega)]
  show wpAny _ _ (newList ((us.toList.drop i).take ((us.toList.drop i).length - (n - 1 - i))) >>= fun d => pure (us.toList.take i ++ [d] ++ (us.toList.drop i).drop ((us.toList.drop i).length - (n - 1 - i)))) _ _ _
  rw [md]
  have he : ∀ b o, s.heap.get? b = some o → h2.get? b = some o := fun b o e => by
    have hb : b ≠ s.heap.objs.size := Nat.ne_of_lt (Heap.lt_size e)
    exact hk b o hb (hs1.extBut b o hb (Heap.get?_push_of_some _ e))
  exact wpAny_bind (wpAny_newList (wpAny_pure (h h2 tk he)) (by rw [List.length_take, rl]; omega))
end
section
variable {X : Cx} {XR : Nat → Option P → XK → Hp → Prop} {bs : List Nat} {W : WX} {e : Expr} {es : List Expr} {pos p : Pos} {cf : CF} {b0 : Nat}
theorem pgs_star {t : TG} {u : TGs} (h1 : PG X e t) (h2 : PGs X es u) : PGs X (.Starred e p :: es) (gCons t u) := by
  refine ⟨fun pins s σ H vs us Q I r h => ?_⟩
  obtain ⟨v, vr, e1, h⟩ := h
  subst e1
  cases r with
  | cons r rr =>
    show wpAny _ _ (assignInOrder (assign e X.env :: (assignEach es X.env).map (·.2)) _) _ _ _
    refine assignInOrder_cons (thn (h1.run pins s σ H _ _ _ I r h) fun _ s1 ⟨σ1, H1, I1, q1⟩ => ?_)
    exact h2.run pins s1 σ1 H1 _ _ Q I1 rr q1
theorem sndGs_star {ws : List Nat} {m : Env → D → M Env} {ms : Env → List D → M Env} (h1 : PG X e (rGw X bs ws m)) (h2 : PGs X es (rGsw X bs ws ms)) :
    PGs X (.Starred e p :: es) (rGsw X bs ws fun σ ds => match ds with
    | d :: ds' => (m σ d).bnd fun σ' => ms σ' ds'
    | [] => M.bad) := by
  refine (pgs_star h1 h2).imp fun vs σ H Q ⟨ex, bt, st, env, ds, S, V, r, C⟩ => ?_
  cases r with
  | nil => exact (show False from C).elim
  | cons r rr =>
    refine ⟨_, _, rfl, ex, bt, st, env, _, S, V, r, (Cont.bnd S C).mono fun σ1 H1 ⟨env1, ex1, bt1, st1, E1, S1, V1, C1⟩ hw1 => ?_⟩
    exact ⟨ex1, bt1, st1, env1, _, S1, V1, RpDs.ext S E1 rr, C1.mono fun σ2 H2 q hw2 => q (hw2.trans hw1)⟩
theorem rps_take {K : KW} {H : Hp} {ex : List Addr} : ∀ {vs : List V} {ps : List P} (n : Nat), Rps K H ex vs ps → Rps K H ex (vs.take n) (ps.take n)
  | _, _, 0, _ => by rw [List.take_zero, List.take_zero]; exact .nil
  | _, _, _ + 1, .nil => .nil
  | _, _, n + 1, .cons r t => .cons r (rps_take n t)
theorem rps_drop {K : KW} {H : Hp} {ex : List Addr} : ∀ {vs : List V} {ps : List P} (n : Nat), Rps K H ex vs ps → Rps K H ex (vs.drop n) (ps.drop n)
  | _, _, 0, h => h
  | _, _, _ + 1, .nil => .nil
  | _, _, n + 1, .cons _ t => rps_drop n t
theorem rpds_app {K : KW} {H : Hp} {ex : List Addr} {bt : Bt} : ∀ {vs us : List V} {ds es : List D}, RpDs K H ex bt vs ds → RpDs K H ex bt us es → RpDs K H ex bt (vs ++ us) (ds ++ es)
  | _, _, _, _, .nil, h => h
  | _, _, _, _, .cons r t, h => .cons r (rpds_app t h)
theorem vals_take : ∀ {xs : List V} {us : List Value} (n : Nat), Vals xs us → Vals (xs.take n) (us.take n)
  | _, _, 0, _ => by rw [List.take_zero, List.take_zero]; exact .nil
  | _, _, _ + 1, .nil => .nil
  | _, _, n + 1, .cons r t => .cons r (vals_take n t)
theorem vals_drop : ∀ {xs : List V} {us : List Value} (n : Nat), Vals xs us → Vals (xs.drop n) (us.drop n)
  | _, _, 0, h => h
  | _, _, _ + 1, .nil => .nil
  | _, _, n + 1, .cons _ t => vals_drop n t
theorem vals_app : ∀ {xs ys : List V} {us ws : List Value}, Vals xs us → Vals ys ws → Vals (xs ++ ys) (us ++ ws)
  | _, _, _, _, .nil, h => h
  | _, _, _, _, .cons r t, h => .cons r (vals_app t h)
theorem sndG_starT {k n i : Nat} {ws : List Nat} {ms : Env → List D → M Env} (hc : X.calm = true) (h : PGs X es (rGsw X bs ws ms)) (hn : (assignEach es X.env).length = n) (hst : (assignEach es X.env).findIdx? (·.1) = some i) (hi : i < n) :
    PG X (.Tuple es k pos) (rGw X bs ws fun σ d => match d with
    | .p (.tuple xs) => if n ≤ xs.length + 1 then ms σ ((xs.take i).map D.p ++ [.p (.list ((xs.drop i).take (xs.length + 1 - n)))] ++ ((xs.drop i).drop (xs.length + 1 - n)).map D.p) else M.bad
    | _ => M.bad) := by
  refine ⟨fun pins s σ H v u Q I r ⟨ex, bt, st, env, d, S, V, r1, C⟩ => ?_⟩
  dsimp only at C
  split at C
  · rename_i xs
    split at C
    · rename_i hl
      cases r1 with
      | tup h1 r2 =>
        rename_i vs a
        cases r
        obtain ⟨its, rv, ht, hz⟩ := I.tuple h1
        have hlen : its.length = xs.length := by rw [← r2.length, ← rv.length]
        rw [assign_Tuple]
        refine wpAny_bind (wpAny_standAt ?_)
        unfold unpack
        rw [hn, hst]
        have hsz : its.toArray.size = xs.length := by simpa using hlen
        have hz' : its.toArray.size ≤ sizeLine := by rw [hsz, ← hlen, ← rv.length]; exact hz
        refine wpAny_bind (wpAny_holding (star_items ht (I.ok.hd hc) hi (by rw [hsz]; omega) hz' fun h' tk hk => ?_))
        rw [hsz]
        show wpAny (model X.prog X.w) X.A (assignInOrder _ (its.take i ++ [Value.ref h'.objs.size] ++ (its.drop i).drop (xs.length + 1 - n))) _ _ _
        have I1 : Inv X pins σ H { s with heap := h', toks := tk } := I.kept hk
        have hf : H h'.objs.size = none := I1.hok.fresh (Nat.le_refl _)
        have rmid : Vals ((vs.drop i).take (xs.length + 1 - n)) ((its.drop i).take (xs.length + 1 - n)) := vals_take _ (vals_drop _ rv)
        have hml : ((vs.drop i).take (xs.length + 1 - n)).length ≤ sizeLine := by
          rw [List.length_take, List.length_drop]
          omega
        have I2 : Inv X pins σ (upd H h'.objs.size (.lst ((vs.drop i).take (xs.length + 1 - n)))) { s with heap := h'.push { cls := .type "list", data := .seq ((its.drop i).take (xs.length + 1 - n)).toArray }, toks := tk } :=
          I1.laid (t' := tk) (fun b u e => Heap.get?_push_of_some _ e) (Nat.le_refl _) ⟨hml, _, 0, rmid, Heap.get?_push_size _ rfl⟩
        have E1 : Ext ex bt H ex bt (upd H h'.objs.size (.lst ((vs.drop i).take (xs.length + 1 - n)))) := Ext.alloc hf
        have S1 := S.alloc (o := .lst ((vs.drop i).take (xs.length + 1 - n))) hf
        have rx := Rps.ext S E1 r2
        refine h.run pins _ σ _ (vs.take i ++ [.ref h'.objs.size] ++ (vs.drop i).drop (xs.length + 1 - n)) _ Q I2 (vals_app (vals_app (vals_take _ rv) (.cons (show RelV (L2.V.ref h'.objs.size) (Value.ref h'.objs.size) from rfl) .nil)) (vals_drop _ (vals_drop _ rv))) ?_
        refine ⟨ex, bt, st, env, _, S1, V.ext S E1, ?_, C.later S E1⟩
        refine rpds_app (rpds_app (rpds_p (rps_take _ rx)) (.cons ?_ .nil)) (rpds_p (rps_drop _ (rps_drop _ rx)))
        exact Rp.newLst S hf (rps_take _ (rps_drop _ r2))
    · exact (show False from C).elim
  · exact (show False from C).elim
end
/-! ### the check -/
/-- stores in order, the star's list among them -/
def starM (cf : CF) (b : Nat) (i : Nat) (us : Tgs) : Tgs → Env → List D → M Env
  | .nil, σ, d :: ds => (M.ret (σ.set i (some d))).bnd fun σ' => evTgs cf b us σ' ds
  | .cons t ts, σ, d :: ds => (evTg cf b t σ d).bnd fun σ' => starM cf b i us ts σ' ds
  | _, _, [] => M.bad
theorem starM_app (cf : CF) (b : Nat) (i : Nat) (us : Tgs) (x : D) (zs : List D) : ∀ (ts : Tgs) (σ : Env) (ys : List D), ys.length = lenTs ts → starM cf b i us ts σ (ys ++ [x] ++ zs) = (evTgs cf b ts σ ys).bnd fun σ1 => evTgs cf b us (σ1.set i (some x)) zs
  | .nil, σ, [], _ => rfl
  | .nil, σ, y :: ys, h => by simp [lenTs] at h
  | .cons t ts, σ, [], h => by simp [lenTs] at h
  | .cons t ts, σ, y :: ys, h => by
    show (evTg cf b t σ y).bnd (fun σ' => starM cf b i us ts σ' (ys ++ [x] ++ zs)) = ((evTg cf b t σ y).bnd fun σ' => evTgs cf b ts σ' ys).bnd _
    rw [bnd_assoc]
    congr 1
    funext σ'
    exact starM_app cf b i us x zs ts σ' ys (by simpa [lenTs] using h)
theorem okNms_inv {N : List Str} {q : Pl} {ws : List Nat} {xs : List Expr} {ts : Tgs} (h : okNms N q ws xs ts = true) :
    (xs = [] ∧ ts = .nil) ∨ ∃ x p r i us, xs = .Name x p :: r ∧ ts = .cons (.name i) us ∧ N[i]? = some x ∧ stoB q x = true ∧ i ∈ ws ∧ okNms N q ws r us = true := by
  unfold okNms at h
  split at h
  · exact .inl ⟨rfl, rfl⟩
  · simp only [Bool.and_eq_true, decide_eq_true_eq] at h
    exact .inr ⟨_, _, _, _, _, rfl, rfl, h.1.1.1, h.1.1.2, h.1.2, h.2⟩
  · cases h
theorem okStN_inv {N : List Str} {q : Pl} {ws : List Nat} {i : Nat} {us : Tgs} {xs : List Expr} {ts : Tgs} (h : okStN N q ws i us xs ts = true) :
    (∃ x p p2 r, xs = .Starred (.Name x p) p2 :: r ∧ ts = .nil ∧ N[i]? = some x ∧ stoB q x = true ∧ i ∈ ws ∧ okNms N q ws r us = true) ∨
    ∃ x p r j vs, xs = .Name x p :: r ∧ ts = .cons (.name j) vs ∧ N[j]? = some x ∧ stoB q x = true ∧ j ∈ ws ∧ okStN N q ws i us r vs = true := by
  unfold okStN at h
  split at h
  · simp only [Bool.and_eq_true, decide_eq_true_eq] at h
    exact .inl ⟨_, _, _, _, rfl, rfl, h.1.1.1, h.1.1.2, h.1.2, h.2⟩
  · simp only [Bool.and_eq_true, decide_eq_true_eq] at h
    exact .inr ⟨_, _, _, _, _, rfl, rfl, h.1.1.1, h.1.1.2, h.1.2, h.2⟩
  · cases h
theorem okNms_len {N : List Str} {q : Pl} {ws : List Nat} (env : PySem.Env) : ∀ (xs : List Expr) (ts : Tgs), okNms N q ws xs ts = true → (assignEach xs env).length = lenTs ts := by
  intro xs
  induction xs with
  | nil =>
    intro ts h
    rcases okNms_inv h with ⟨_, rfl⟩ | ⟨x, p, r, i, us, e, _⟩
    · rfl
    · cases e
  | cons x xs ih =>
    intro ts h
    rcases okNms_inv h with ⟨e, _⟩ | ⟨x, p, r, i, us, e, rfl, _, _, _, h2⟩
    · cases e
    · cases e
      show (assignEach xs env).length + 1 = lenTs us + 1
      rw [ih us h2]
theorem okStN_len {N : List Str} {q : Pl} {ws : List Nat} {i : Nat} {us : Tgs} (env : PySem.Env) : ∀ (xs : List Expr) (ts : Tgs), okStN N q ws i us xs ts = true → (assignEach xs env).length = lenTs ts + 1 + lenTs us ∧ (assignEach xs env).findIdx? (·.1) = some (lenTs ts) := by
  intro xs
  induction xs with
  | nil =>
    intro ts h
    rcases okStN_inv h with ⟨_, _, _, _, e, _⟩ | ⟨_, _, _, _, _, e, _⟩ <;> cases e
  | cons x xs ih =>
    intro ts h
    rcases okStN_inv h with ⟨_, _, _, _, e, rfl, _, _, _, h2⟩ | ⟨_, _, _, _, _, e, rfl, _, _, _, h2⟩
    · cases e
      refine ⟨?_, rfl⟩
      show (assignEach xs env).length + 1 = 0 + 1 + lenTs us
      rw [okNms_len env _ _ h2]; omega
    · cases e
      obtain ⟨h3, h4⟩ := ih _ h2
      refine ⟨?_, ?_⟩
      · show (assignEach xs env).length + 1 = lenTs _ + 1 + 1 + lenTs us
        omega
      · show List.findIdx? _ ((false, _) :: assignEach xs env) = _
        rw [List.findIdx?_cons, h4]
        rfl
section
variable {N : List Str} {q : Pl} {ws : List Nat} {X : Cx} {bs : List Nat} {cf : CF} {b0 : Nat}
theorem sndNms (hN : X.N.Nodup) (ix : ∀ {i : Nat} {x : Str}, N[i]? = some x → X.N[i]? = some x) (sto : ∀ {x : Str}, stoB q x = true → Loc X.env.scope x ∧ (X.fn x = true ∨ X.env.scope.names.lookup x = some .local)) :
    ∀ (xs : List Expr) (ts : Tgs), okNms N q ws xs ts = true → PGs X xs (rGsw X bs ws (evTgs cf b0 ts)) := by
  intro xs
  induction xs with
  | nil =>
    intro ts h
    rcases okNms_inv h with ⟨_, rfl⟩ | ⟨x, p, r, i, us, e, _⟩
    · exact sndGs_nil
    · cases e
  | cons x xs ih =>
    intro ts h
    rcases okNms_inv h with ⟨e, _⟩ | ⟨x, p, r, i, us, e, rfl, h1, h2, h3, h4⟩
    · cases e
    · cases e
      obtain ⟨s1, s2⟩ := sto h2
      exact sndGs_cons (sndG_name hN (ix h1) s1 s2 h3) (ih _ h4) rfl
theorem sndStN (hN : X.N.Nodup) (ix : ∀ {i : Nat} {x : Str}, N[i]? = some x → X.N[i]? = some x) (sto : ∀ {x : Str}, stoB q x = true → Loc X.env.scope x ∧ (X.fn x = true ∨ X.env.scope.names.lookup x = some .local)) {i : Nat} {us : Tgs} :
    ∀ (xs : List Expr) (ts : Tgs), okStN N q ws i us xs ts = true → PGs X xs (rGsw X bs ws (starM cf b0 i us ts)) := by
  intro xs
  induction xs with
  | nil =>
    intro ts h
    rcases okStN_inv h with ⟨_, _, _, _, e, _⟩ | ⟨_, _, _, _, _, e, _⟩ <;> cases e
  | cons x xs ih =>
    intro ts h
    rcases okStN_inv h with ⟨_, _, _, _, e, rfl, h1, h2, h3, h4⟩ | ⟨_, _, _, _, _, e, rfl, h1, h2, h3, h4⟩
    · cases e
      obtain ⟨s1, s2⟩ := sto h2
      refine (sndGs_star (sndG_name hN (ix h1) s1 s2 h3) (sndNms (cf := cf) (b0 := b0) hN ix sto _ _ h4)).imp fun vs σ H Q ⟨ex, bt, st, env, ds, S, V, r, C⟩ => ⟨ex, bt, st, env, ds, S, V, r, ?_⟩
      cases ds <;> exact C
    · cases e
      obtain ⟨s1, s2⟩ := sto h2
      refine (sndGs_cons (sndG_name hN (ix h1) s1 s2 h3) (ih _ h4) rfl).imp fun vs σ H Q ⟨ex, bt, st, env, ds, S, V, r, C⟩ => ⟨ex, bt, st, env, ds, S, V, r, ?_⟩
      cases ds <;> exact C
theorem star_eq (cf : CF) (b0 i : Nat) (ts us : Tgs) (env : Env) (d : D) : evTg cf b0 (.star ts i us) env d = (match d with
  | .p (.tuple xs) => if lenTs ts + 1 + lenTs us ≤ xs.length + 1 then starM cf b0 i us ts env ((xs.take (lenTs ts)).map D.p ++ [.p (.list ((xs.drop (lenTs ts)).take (xs.length + 1 - (lenTs ts + 1 + lenTs us))))] ++ ((xs.drop (lenTs ts)).drop (xs.length + 1 - (lenTs ts + 1 + lenTs us))).map D.p) else M.bad
  | _ => M.bad) := by
  cases d with
  | p d => cases d with
    | tuple xs =>
      show (if lenTs ts + lenTs us ≤ xs.length then
        (evTgs cf b0 ts env ((xs.take (lenTs ts)).map D.p)).bnd fun σ1 =>
        evTgs cf b0 us (σ1.set i (some (.p (.list ((xs.drop (lenTs ts)).take (xs.length - lenTs ts - lenTs us)))))) ((xs.drop (xs.length - lenTs us)).map D.p) else M.bad) = _
      by_cases hl : lenTs ts + lenTs us ≤ xs.length
      · rw [if_pos hl]
        dsimp only
        rw [if_pos (by omega), starM_app _ _ _ _ _ _ _ _ _ (by rw [List.length_map, List.length_take]; omega), List.drop_drop, show xs.length - lenTs ts - lenTs us = xs.length + 1 - (lenTs ts + 1 + lenTs us) by omega, show lenTs ts + (xs.length + 1 - (lenTs ts + 1 + lenTs us)) = xs.length - lenTs us by omega]
      · rw [if_neg hl]
        dsimp only
        rw [if_neg (by omega)]
    | _ => rfl
  | _ => rfl
theorem sndG_starN (hc : X.calm = true) (hN : X.N.Nodup) (ix : ∀ {i : Nat} {x : Str}, N[i]? = some x → X.N[i]? = some x) (sto : ∀ {x : Str}, stoB q x = true → Loc X.env.scope x ∧ (X.fn x = true ∨ X.env.scope.names.lookup x = some .local)) {i : Nat} {ts us : Tgs} {xs : List Expr} {k : Nat} {pos : Pos} (h : okStN N q ws i us xs ts = true) :
    PG X (.Tuple xs k pos) (rGw X bs ws (evTg cf b0 (.star ts i us))) := by
  obtain ⟨h1, h2⟩ := okStN_len X.env _ _ h
  refine (sndG_starT hc (sndStN (cf := cf) (b0 := b0) hN ix sto _ _ h) h1 h2 (by omega)).imp fun v σ H Q ⟨ex, bt, st, env, d, S, V, r, C⟩ => ⟨ex, bt, st, env, d, S, V, r, ?_⟩
  rw [star_eq] at C
  exact C
end
end Ev

end
section
/-! Ev 36: list(range(..)), tuple(range(..)); fresh lists that stay open, as expressions. -/
namespace Ev
open PySem PySem.Spec PyProof.Rows L2
section
variable {X : Cx} {XR : Nat → Option P → XK → Hp → Prop} {bs : List Nat} {W : WX} {e a : Expr} {pos p p2 pos2 : Pos} {ma : Env → M D}
theorem rg_rps {K : KW} {H : Hp} {ex : List Addr} (n : Int) : Rps K H ex (rgV 0 n) (rngI 0 n.toNat) := by
  have e1 : rgV 0 n = ((List.range n.toNat).map fun (k : Nat) => (0 : Int) + (k : Int)).map V.int := by
    unfold rgV
    rw [List.map_map, Int.sub_zero]
    rfl
  have e2 : rngI 0 n.toNat = ((List.range n.toNat).map fun (k : Nat) => (0 : Int) + (k : Int)).map PyData.int := by
    unfold rngI
    rw [List.map_map]
    rfl
  rw [e1, e2]
  exact Rps.of_ints _
def rg1 (x : D) : M (List P) := match x with
  | .p (.int j) => if rngOk j then M.ret (rngI 0 j.toNat) else M.bad
  | _ => M.bad
abbrev rgM (ma : Env → M D) (σ : Env) : M (List P) := ((ma σ).bnd rg1).bnd fun xs => if decide (xs.length ≤ line) then M.ret xs else M.bad
theorem rg_ok {j : Int} (h1 : rngOk j = true) (h2 : (rngI 0 j.toNat).length ≤ line) : RgOk 0 j := by
  unfold rngOk at h1
  simp only [Bool.and_eq_true, decide_eq_true_eq] at h1
  rw [rng_len] at h2
  exact ⟨by decide, by decide, h1.1, h1.2, by rw [Int.sub_zero]; exact h2⟩
theorem rg_cont {σ : L2.St} {H : Hp} {α ν : Type} {R : Hp → List Addr → Bt → ν → α → Prop} {Q : ν → Hp → Prop} {st : Store} {d : D} {ex : List Addr} {bt : Bt} {Y : XK} {f : List P → M α}
    (C : Cont (kw X) XR bs Y R ex bt H ((((rg1 d).bnd fun xs => if decide (xs.length ≤ line) then M.ret xs else M.bad).bnd f) st) Q) :
    ∃ j, d = .p (.int j) ∧ RgOk 0 j ∧ Cont (kw X) XR bs Y R ex bt H (f (rngI 0 j.toNat) st) Q := by
  cases d with
  | p d => cases d with
    | int j =>
      have e0 : rg1 (.p (.int j)) = if rngOk j then M.ret (rngI 0 j.toNat) else M.bad := rfl
      rw [e0] at C
      cases h1 : rngOk j with
      | false => rw [h1] at C; exact (show False from C).elim
      | true =>
        rw [h1] at C
        by_cases h2 : (rngI 0 j.toNat).length ≤ line
        · refine ⟨j, rfl, rg_ok h1 h2, ?_⟩
          have e : ((M.ret (rngI 0 j.toNat)).bnd fun xs => if decide (xs.length ≤ line) then M.ret xs else M.bad) = M.ret (rngI 0 j.toNat) := if_pos (decide_eq_true h2)
          rw [if_pos rfl, e] at C
          exact C
        · have e : ((M.ret (rngI 0 j.toNat)).bnd fun xs => if decide (xs.length ≤ line) then M.ret xs else M.bad) = M.bad := if_neg (by simp [h2])
          rw [if_pos rfl, e] at C
          exact (show False from C).elim
    | _ => exact (show False from C).elim
  | _ => exact (show False from C).elim
theorem sndC_lstRg (hc : X.calm = true) (hg : Gl X "list") (hm : X.mg "list" = none) (hg2 : Gl X "range") (hm2 : X.mg "range" = none) (ha : PE X a (rE X XR bs W ma)) (na : starEach [a] X.env = (false, eval a X.env) :: starEach [] X.env) :
    PE X (.Call (.Name "list" p) [.Call (.Name "range" p2) [a] [] pos2] [] pos) (rC X XR bs W (rgM ma)) := by
  refine (pe_listRg hc hg hm (prg_1 hg2 hm2 ha na) rfl).imp fun σ H Q ⟨ex, bt, st, env, S, V, C⟩ => ⟨ex, bt, st, env, S, V, ?_⟩
  dsimp only [rgM] at C
  rw [bnd_assoc] at C
  refine (Cont.bnd S C).mono fun x H1 ⟨d, ex1, bt1, st1, E1, S1, R1, C1⟩ => ?_
  have C1' : Cont (kw X) XR bs (fun c d H => W c d σ H) (RC (kw X) H) ex1 bt1 H1 ((((rg1 d).bnd fun xs => if decide (xs.length ≤ line) then M.ret xs else M.bad).bnd M.ret) st1) Q := by
    have e : ∀ m : M (List P), m.bnd M.ret = m := fun m => by
      funext s
      unfold M.bnd
      cases m s <;> rfl
    rw [e]
    exact C1
  obtain ⟨j, rfl, ok, C2⟩ := rg_cont (σ := σ) (H := H1) C1'
  cases R1
  refine ⟨j, rfl, ok, fun q hq => ?_⟩
  exact C2 _ _ _ bt1 (Ext.own hq) (S1.own hq) ⟨q, _, rfl, E1.back hq, upd_same, List.mem_cons_self, S1.notBt hq, rg_rps j⟩
theorem snd_tupRg (hc : X.calm = true) (hg : Gl X "tuple") (hm : X.mg "tuple" = none) (hg2 : Gl X "range") (hm2 : X.mg "range" = none) (ha : PE X a (rE X XR bs W ma)) (na : starEach [a] X.env = (false, eval a X.env) :: starEach [] X.env) :
    PE X (.Call (.Name "tuple" p) [.Call (.Name "range" p2) [a] [] pos2] [] pos) (rE X XR bs W fun σ => (rgM ma σ).bnd fun ys => M.ret (.p (.tuple ys))) := by
  refine (pe_tupRg hc hg hm (prg_1 hg2 hm2 ha na) rfl).imp fun σ H Q ⟨ex, bt, st, env, S, V, C⟩ => ⟨ex, bt, st, env, S, V, ?_⟩
  dsimp only [rgM] at C
  rw [bnd_assoc, bnd_assoc] at C
  refine (Cont.bnd S C).mono fun x H1 ⟨d, ex1, bt1, st1, E1, S1, R1, C1⟩ => ?_
  obtain ⟨j, rfl, ok, C2⟩ := rg_cont (σ := σ) (H := H1) (f := fun ys => M.ret (D.p (.tuple ys))) (by rw [bnd_assoc]; exact C1)
  cases R1
  exact ⟨j, rfl, ok, fun q hq => C2.tup S1 (rg_rps j) q hq⟩
theorem sndC_nil : PE X (.List [] pos) (rC X XR bs W fun _ => M.ret []) := by
  refine (pe_lst pa_nil).imp fun σ H Q ⟨ex, bt, st, env, S, V, C⟩ => ?_
  refine ⟨Nat.zero_le _, fun q hq => ?_⟩
  exact C _ _ _ bt (Ext.own hq) (S.own hq) ⟨q, _, rfl, hq, upd_same, List.mem_cons_self, S.notBt hq, .nil⟩
/-- a fresh list by its own number, as an expression -/
theorem sndE_opn {m : Env → M (List P)} (he : PE X e (rC X XR bs W m)) : PE X e (rE X XR bs W fun σ => ((m σ).bnd fun ys => M.ret (D.p (.list ys))).bnd opnD) := by
  refine he.imp fun σ H Q ⟨ex, bt, st, env, S, V, C⟩ => ⟨ex, bt, st, env, S, V, ?_⟩
  dsimp only at C
  rw [bnd_assoc] at C
  unfold M.bnd at C
  cases e : m env st with
  | ok xs s =>
    rw [e] at C
    rintro v H' ex' bt' E' S' ⟨p, vs, rfl, hn, hp, hx, nb, r⟩
    refine C _ H' ex' (bt' ++ [some p]) (E'.push hn) (S'.push hp hx nb (rpds_p r)) ?_
    refine ⟨by rw [List.length_append, S'.len]; exact Nat.lt_succ_self _, fun a ha => ?_⟩
    rw [← S'.len, List.getElem?_append_right (Nat.le_refl _), Nat.sub_self] at ha
    cases ha; rfl
  | exn c v s => rw [e] at C; exact C
  | bad => rw [e] at C; exact C
/-- a fresh list, the sum of two -/
theorem add_opn {K : KW} {bs : List Nat} {Y : XK} {ex : List Addr} {bt : Bt} {st : Store} {H : Hp} {x y : L2.V} {d d2 : D} {Q : VK} (S : SRel K bs ex bt st H) (rx : RpD K H ex bt x d) (ry : RpD K H ex bt y d2)
    (h : Cont K XR bs Y (RpD K) ex bt H (((binD .add d d2).bnd opnD) st) Q) : rBin K .add x y H Q := by
  unfold binD at h
  split at h
  · exact (show False from h).elim
  · rename_i hs
    have hs' : isScr d = false ∧ isScr d2 = false := by simpa using hs
    rw [bnd_assoc] at h
    obtain ⟨p, cx, ex1, h⟩ := Cont.view S rx h
    rw [bnd_assoc] at h
    obtain ⟨q, cy, ey1, h⟩ := Cont.view S ry h
    rw [bnd_assoc] at h
    obtain ⟨r, er, h⟩ := Cont.opt h
    have no : ∀ z : P, (∀ ps, z ≠ .list ps) → r = z → False := fun z hz e => by
      subst e
      cases r with
      | list ps => exact hz ps rfl
      | _ => exact (show False from h)
    cases r with
    | list ps =>
      unfold binP at er
      split at er <;> first
        | (exfalso; simp at *; done)
        | (split at er
           · cases er
             rename_i xs ys hl
             obtain ⟨a, vs, rfl, h1, r1⟩ := Cur.lstM S rx hs'.1 ex1
             obtain ⟨b, ws, rfl, h2, r2⟩ := Cur.lstM S ry hs'.2 ey1
             refine .inr (.inr ⟨a, b, vs, ws, rfl, rfl, h1, h2, by rw [line_eq, r1.length, r2.length]; exact hl, fun p hq => ?_⟩)
             refine h _ _ (p :: ex) (bt ++ [some p]) ((Ext.own hq).push hq) ((S.own hq).push upd_same List.mem_cons_self (S.notBt hq) (rpds_p (Rps.ext S (Ext.own hq) (r1.append r2)))) ?_
             refine ⟨by rw [List.length_append, S.len]; exact Nat.lt_succ_self _, fun a ha => ?_⟩
             rw [← S.len, List.getElem?_append_right (Nat.le_refl _), Nat.sub_self] at ha
             cases ha; rfl
           · cases er)
        | (split at er <;> cases er)
        | cases er
    | _ => exact (show False from h).elim
theorem sndE_addOpn {b : Expr} {mb : Env → M D} (ha : PE X a (rE X XR bs W ma)) (hb : PE X b (rE X XR bs W mb)) : PE X (.BinOp a .Add b pos) (rE X XR bs W fun σ => ((ma σ).bnd fun x => (mb σ).bnd fun y => binD .add x y).bnd opnD) := by
  refine (pe_op (op_rBin .add) ha hb).imp fun σ H Q ⟨ex, bt, st, env, S, V, C⟩ => ?_
  dsimp only at C
  rw [bnd_assoc] at C
  refine ⟨ex, bt, st, env, S, V, (Cont.bnd S C).mono fun x H1 ⟨d, ex1, bt1, st1, E1, S1, R1, C1⟩ => ?_⟩
  rw [bnd_assoc] at C1
  refine ⟨ex1, bt1, st1, env, S1, V.ext S E1, (Cont.bnd S1 C1).mono fun y H2 ⟨d2, ex2, bt2, st2, E2, S2, R2, C2⟩ => ?_⟩
  exact add_opn S2 (RpD.ext S1 E2 R1) R2 C2
end
end Ev

end
section
set_option maxHeartbeats 8000000
/-! Ev 25: what is checked is sound. -/
namespace Ev
open PySem PySem.Spec PyProof.Rows L2
/-- what holds of the text's module -/
structure Fa (c : Cf) (XR : Nat → Option P → XK → Hp → Prop) (k : Nat) (cf : CF) (pr : Program) (w : World) (K : PySem.W.Frag) (mg : Str → Option Value) (base : Heap) : Prop where
  fn : ∀ x f, c.fns.lookup x = some f → ∃ a fd ps, mg x = some (.ref a) ∧ PySem.W.keepIn K (.ref a) = true ∧ Binds K fd ps [] ∧ (∀ ks n pm, (f, ks, n, pm) ∈ c.kws → KBg K fd ps ks n pm) ∧ FnG pr w K mg base (L2.CX pr w) k a fd ps (CallSp ⟨K, w, pr⟩ XR (cf f))
  con : ∀ x d, c.cons.lookup x = some d → ∃ v u, mg x = some u ∧ RelV v u ∧ ∀ H ex, Rp ⟨K, w, pr⟩ H ex v d
  free : ∀ x, c.free.contains x = true → mg x = none
/-- a context in which an expression stands -/
structure Ctx (c : Cf) (N : List Str) (XR XR' : Nat → Option P → XK → Hp → Prop) (k : Nat) (cf : CF) (X : Cx) (q : Pl) (W : WX) : Prop where
  calm : X.calm = true
  hN : X.N = N
  nd : N.Nodup
  sc : X.env.scope = q.sc
  cel : ∀ x, q.cel x = true → X.fn x = true
  room : Room k X.A
  grd : X.A.guards = some []
  fa : Fa c XR k cf X.prog X.w X.K X.mg X.base
  tk : Takes X W
  xr : ∀ cl x Y H, XR' cl x Y H → XR cl x Y H
section
variable {c : Cf} {N : List Str} {XR XR' : Nat → Option P → XK → Hp → Prop} {k : Nat} {cf : CF} {X : Cx} {q : Pl} {W : WX}
theorem Ctx.un (C : Ctx c N XR XR' k cf X q W) : X.A.units + 65 < cLine := by have := C.room.un; omega
theorem Ctx.ix (C : Ctx c N XR XR' k cf X q W) {i : Nat} {x : Str} (h : N[i]? = some x) : X.N[i]? = some x := by rw [C.hN]; exact h
theorem Ctx.nd' (C : Ctx c N XR XR' k cf X q W) : X.N.Nodup := by rw [C.hN]; exact C.nd
theorem Ctx.vis (C : Ctx c N XR XR' k cf X q W) {x : Str} (h : visB q.sc x = true) : Vis X.env.scope x := by rw [C.sc]; exact visB_ok h
theorem Ctx.gl (C : Ctx c N XR XR' k cf X q W) {x : Str} (h : glB q.sc x = true) : Gl X x := by
  show X.env.scope.names.lookup x = _
  rw [C.sc]; exact glB_ok h
theorem Ctx.free (C : Ctx c N XR XR' k cf X q W) {x : Str} (h : freeB c q x = true) : Gl X x ∧ X.mg x = none := by
  unfold freeB at h
  rw [Bool.and_eq_true] at h
  exact ⟨C.gl h.1, C.fa.free x h.2⟩
theorem Ctx.sto (C : Ctx c N XR XR' k cf X q W) {x : Str} (h : stoB q x = true) : Loc X.env.scope x ∧ (X.fn x = true ∨ X.env.scope.names.lookup x = some .local) := by
  unfold stoB at h
  rw [C.sc]
  split at h
  · rename_i e; exact ⟨.inl e, .inr e⟩
  · rename_i e; exact ⟨.inr e, .inl (C.cel x h)⟩
  · cases h
theorem plainN_ok {x : Str} (h : plainN x = true) : (x == ("__debug__" : Str)) = false ∧ (x == ("__classdict__" : Str)) = false := by
  unfold plainN at h
  rw [Bool.and_eq_true, Bool.not_eq_true', Bool.not_eq_true'] at h
  exact h
/-- a block's context -/
theorem Ctx.blk (C : Ctx c N XR XR' k cf X q W) (scope : Scope) (s : Shared) (H : Hp) (A : Addr) (cl : List (Str × Addr)) (fp : List Addr) : Ctx c N XR noX k cf (blkX X scope s H A cl fp) (blkP scope q) noW where
  calm := C.calm
  hN := C.hN
  nd := C.nd
  sc := by
    show (compEnvC scope cl A X.env).scope = relS scope q.sc
    rw [blk_scope, C.sc]
  cel := fun x h => h
  room := C.room
  grd := C.grd
  fa := C.fa
  tk := fun u s' ⟨a, B, sI, pins, σ, H, cls, d, e, I, nb, up, sky, na, os, ag, w⟩ => w
  xr := fun _ _ _ _ h => h.elim
theorem Cont.wider {K : KW} {bs : List Nat} {Y : XK} {α ν : Type} {R : Hp → List Addr → Bt → ν → α → Prop} {ex : List Addr} {bt : Bt} {H : Hp} {r : Res α} {Q : ν → Hp → Prop} (hx : ∀ cl x Y H, XR' cl x Y H → XR cl x Y H) (h : Cont K XR' bs Y R ex bt H r Q) : Cont K XR bs Y R ex bt H r Q := by
  cases r with
  | ok a s => exact h
  | exn c v s => exact fun H' ex' bt' E S => hx _ _ _ _ (h H' ex' bt' E S)
  | bad => exact h
theorem pe_glob {x : Str} {v : V} {u : Value} {pos : Pos} (hg : Gl X x) (hm : X.mg x = some u) (r : RelV v u) (hd : (x == ("__debug__" : Str)) = false) : PE X (.Name x pos) (tC v) :=
  ⟨fun _ _ _ H _ I h => ld_glob I hg hm ⟨v, H, I, r, h⟩ hd⟩
theorem pe_and0 {a : Expr} {t : TE} {pos : Pos} (h : PE X a t) : PE X (.BoolOp .And [a] pos) t := ⟨fun pins s σ H Q I hw => by
  have e : eval (.BoolOp .And [a] pos) X.env = eval a X.env := rfl
  rw [e]; exact h.run pins s σ H Q I hw⟩
theorem pe_or0 {a : Expr} {t : TE} {pos : Pos} (h : PE X a t) : PE X (.BoolOp .Or [a] pos) t := ⟨fun pins s σ H Q I hw => by
  have e : eval (.BoolOp .Or [a] pos) X.env = eval a X.env := rfl
  rw [e]; exact h.run pins s σ H Q I hw⟩
theorem _root_.L2.PTs.imp {X : Cx} {e : List Expr} {t t' : TT} (h : PTs X e t) (i : ∀ σ H Q, t' σ H Q → t σ H Q) : PTs X e t' := ⟨fun pins s σ H Q I q => h.run pins s σ H Q I (i σ H Q q)⟩
theorem pts_yes {bs : List Nat} : PTs X [] (rT X noX bs noW fun _ => M.ret true) := PTs.imp pts_nil fun σ H Q ⟨ex, bt, st, env, S, V, C⟩ => Cont.ret S C rfl
end
end Ev

end
section
set_option maxHeartbeats 8000000
/-! Ev 26: what is checked is sound: expressions. -/
namespace Ev
open PySem PySem.Spec PyProof.Rows L2
def isBO : Expr → Bool
  | .BoolOp _ _ _ => true
  | _ => false
section
variable {c : Cf} {N : List Str} {XR : Nat → Option P → XK → Hp → Prop} {k : Nat} {cf : CF}
/-- an expression is as it is told -/
def GoodE (X : Cx) (XR' : Nat → Option P → XK → Hp → Prop) (bs : List Nat) (W : WX) (x : Expr) (m : Env → M D) : Prop :=
  PE X x (rE X XR' bs W m) ∧ PT X x (rT X XR' bs W fun σ => (m σ).bnd truD) ∧ (isBO x = true → PW X x (rT X XR' bs W fun σ => (m σ).bnd truD))
theorem good_of {X : Cx} {XR' : Nat → Option P → XK → Hp → Prop} {bs : List Nat} {W : WX} {x : Expr} {m : Env → M D} (h : PE X x (rE X XR' bs W m)) (t : testPlain x = true) (b : isBO x = false) : GoodE X XR' bs W x m :=
  ⟨h, sndT_val h fun w => test_plain t X.env w, fun e => by rw [b] at e; cases e⟩
/-- what a comprehension asks -/
structure GoodC (X : Cx) (XR' : Nat → Option P → XK → Hp → Prop) (bs : List Nat) (W : WX) (cf : CF) (b0 : Nat) (N : List Str) (x : Expr) (a : E) (tg : Expr) (t : Tg) (iter : Expr) (it : I) (ifs : List Expr) (kk : Eo) (scope : Scope) : Prop where
  hi : PI X tg iter (rI X XR' bs W (evI cf b0 it))
  ok : BlkOk X.N X.env.scope scope (ownOf N (slotsT t))
  hv : ∀ i, i ∈ (ownOf N (slotsT t)).map (·.2) → i ∈ slotsT t
  hg : ∀ (s : Shared) (H : Hp) (C : Addr) (cl : List (Str × Addr)) (fp : List Addr), PG (blkX X scope s H C cl fp) tg (rGw X bs ((ownOf N (slotsT t)).map (·.2)) (evTg cf b0 t))
  ht : ∀ (s : Shared) (H : Hp) (C : Addr) (cl : List (Str × Addr)) (fp : List Addr), PTs (blkX X scope s H C cl fp) ifs (rT X noX bs noW (evC cf b0 kk))
  he : ∀ (s : Shared) (H : Hp) (C : Addr) (cl : List (Str × Addr)) (fp : List Addr), PE (blkX X scope s H C cl fp) x (rE X noX bs noW (evE cf b0 a))
  hs : ∀ x, foldedSetIterable iter X.env x = pure x
structure Sn (c : Cf) (N : List Str) (XR : Nat → Option P → XK → Hp → Prop) (k : Nat) (cf : CF) (n : Nat) : Prop where
  e : ∀ {XR' : Nat → Option P → XK → Hp → Prop} {X : Cx} {q : Pl} {W : WX}, Ctx c N XR XR' k cf X q W → ∀ {x : Expr} {a : E}, okE c N n q x a = true → ∀ {bs : List Nat} {b0 : Nat}, (∀ b, b ∈ bs → b ≤ b0) → GoodE X XR' bs W x (evE cf b0 a)
  co : ∀ {XR' : Nat → Option P → XK → Hp → Prop} {X : Cx} {q : Pl} {W : WX}, Ctx c N XR XR' k cf X q W → ∀ {x : Expr} {a : E} {tg : Expr} {t : Tg} {iter : Expr} {it : I} {ifs : List Expr} {kk : Eo} {scope : Scope}, okCo c N n q x a tg t iter it ifs kk scope = true → ∀ {bs : List Nat} {b0 : Nat}, (∀ b, b ∈ bs → b ≤ b0) → GoodC X XR' bs W cf b0 N x a tg t iter it ifs kk scope
  es : ∀ {XR' : Nat → Option P → XK → Hp → Prop} {X : Cx} {q : Pl} {W : WX}, Ctx c N XR XR' k cf X q W → ∀ {x : List Expr} {a : Es}, okEs c N n q x a = true → ∀ {bs : List Nat} {b0 : Nat}, (∀ b, b ∈ bs → b ≤ b0) → PA X x (rA X XR' bs W (evEs cf b0 a))
  o : ∀ {XR' : Nat → Option P → XK → Hp → Prop} {X : Cx} {q : Pl} {W : WX}, Ctx c N XR XR' k cf X q W → ∀ {x : Option Expr} {a : Eo}, okO c N n q x a = true → ∀ {bs : List Nat} {b0 : Nat}, (∀ b, b ∈ bs → b ≤ b0) → PO X x (rO X XR' bs W fun σ => (evEo cf b0 a σ).bnd partD)
  i : ∀ {XR' : Nat → Option P → XK → Hp → Prop} {X : Cx} {q : Pl} {W : WX}, Ctx c N XR XR' k cf X q W → ∀ {tg x : Expr} {a : I}, okI c N n q tg x a = true → ∀ {bs : List Nat} {b0 : Nat}, (∀ b, b ∈ bs → b ≤ b0) → PI X tg x (rI X XR' bs W (evI cf b0 a))
  g : ∀ {XR' : Nat → Option P → XK → Hp → Prop} {X : Cx} {q : Pl} {W : WX}, Ctx c N XR XR' k cf X q W → ∀ {ws : List Nat} {x : Expr} {t : Tg}, okTg c N n q ws x t = true → ∀ {bs : List Nat} {b0 : Nat}, (∀ b, b ∈ bs → b ≤ b0) → PG X x (rGw X bs ws (evTg cf b0 t))
  gs : ∀ {XR' : Nat → Option P → XK → Hp → Prop} {X : Cx} {q : Pl} {W : WX}, Ctx c N XR XR' k cf X q W → ∀ {ws : List Nat} {x : List Expr} {t : Tgs}, okTgs c N n q ws x t = true → ∀ {bs : List Nat} {b0 : Nat}, (∀ b, b ∈ bs → b ≤ b0) → PGs X x (rGsw X bs ws (evTgs cf b0 t))
theorem sn_zero : Sn c N XR k cf 0 := by
  constructor <;> intros <;> rename_i h _ _ _ <;> (first | (simp [okE] at h; done) | (simp [okCo] at h; done) | (simp [okEs] at h; done) | (simp [okO] at h; done) | (simp [okI] at h; done) | (simp [okTg] at h; done) | (simp [okTgs] at h; done))
theorem sn_es {n : Nat} (ih : Sn c N XR k cf n) {XR' : Nat → Option P → XK → Hp → Prop} {X : Cx} {q : Pl} {W : WX} (C : Ctx c N XR XR' k cf X q W) {x : List Expr} {a : Es} (h : okEs c N (n + 1) q x a = true) {bs : List Nat} {b0 : Nat} (hb : ∀ b, b ∈ bs → b ≤ b0) : PA X x (rA X XR' bs W (evEs cf b0 a)) := by
  unfold okEs at h
  cases a with
  | nil =>
    cases x with
    | nil => exact sndA_nil
    | cons _ _ => simp at h
  | cons a es =>
    cases x with
    | nil => simp at h
    | cons x xs =>
      simp only [Bool.and_eq_true, Bool.not_eq_true'] at h
      exact sndA_cons (ih.e C h.1.2 hb).1 (ih.es C h.2 hb) (star_cons h.1.1 _ _)
  | star a es =>
    dsimp only at h
    split at h
    · simp only [Bool.and_eq_true] at h
      exact sndA_star (ih.e C h.1 hb).1 (ih.es C h.2 hb)
    · cases h
theorem sn_o {n : Nat} (ih : Sn c N XR k cf n) {XR' : Nat → Option P → XK → Hp → Prop} {X : Cx} {q : Pl} {W : WX} (C : Ctx c N XR XR' k cf X q W) {x : Option Expr} {a : Eo} (h : okO c N (n + 1) q x a = true) {bs : List Nat} {b0 : Nat} (hb : ∀ b, b ∈ bs → b ≤ b0) : PO X x (rO X XR' bs W fun σ => (evEo cf b0 a σ).bnd partD) := by
  unfold okO at h
  cases a with
  | none =>
    cases x with
    | none => exact sndO_none
    | some _ => simp at h
  | some a =>
    cases x with
    | none => simp at h
    | some x =>
      refine (sndO_some (ih.e C h hb).1).imp fun σ H Q ⟨ex, bt, st, env, S, V, C⟩ => ⟨ex, bt, st, env, S, V, ?_⟩
      have e : ((evEo cf b0 (.some a) env).bnd partD) = ((evE cf b0 a env).bnd fun x => partD (some x)) := by
        show (((evE cf b0 a env).bnd fun x => M.ret (Option.some x)).bnd partD) = _
        rw [bnd_assoc]; rfl
      dsimp only at C
      rw [e] at C
      exact C
theorem sn_gs {n : Nat} (ih : Sn c N XR k cf n) {XR' : Nat → Option P → XK → Hp → Prop} {X : Cx} {q : Pl} {W : WX} (C : Ctx c N XR XR' k cf X q W) {ws : List Nat} {x : List Expr} {t : Tgs} (h : okTgs c N (n + 1) q ws x t = true) {bs : List Nat} {b0 : Nat} (hb : ∀ b, b ∈ bs → b ≤ b0) : PGs X x (rGsw X bs ws (evTgs cf b0 t)) := by
  unfold okTgs at h
  cases t with
  | nil =>
    cases x with
    | nil => exact sndGs_nil
    | cons _ _ => simp at h
  | cons t ts =>
    cases x with
    | nil => simp at h
    | cons x xs =>
      simp only [Bool.and_eq_true, Bool.not_eq_true'] at h
      exact sndGs_cons (ih.g C h.1.2 hb) (ih.gs C h.2 hb) (by rw [asg_cons h.1.1]; rfl)
theorem asgs_len : ∀ {xs : List Expr}, noStar xs = true → ∀ env : PySem.Env, (assignEach xs env).length = xs.length ∧ (assignEach xs env).findIdx? (·.1) = none
  | [], _, _ => ⟨rfl, rfl⟩
  | x :: xs, h, env => by
    simp only [noStar, Bool.and_eq_true, Bool.not_eq_true'] at h
    obtain ⟨h1, h2⟩ := asgs_len h.2 env
    rw [asg_cons h.1]
    refine ⟨by rw [List.length_cons, List.length_cons, h1], ?_⟩
    rw [List.findIdx?_cons]
    simp [h2]
theorem sn_g {n : Nat} (ih : Sn c N XR k cf n) {XR' : Nat → Option P → XK → Hp → Prop} {X : Cx} {q : Pl} {W : WX} (C : Ctx c N XR XR' k cf X q W) {ws : List Nat} {x : Expr} {t : Tg} (h : okTg c N (n + 1) q ws x t = true) {bs : List Nat} {b0 : Nat} (hb : ∀ b, b ∈ bs → b ≤ b0) : PG X x (rGw X bs ws (evTg cf b0 t)) := by
  unfold okTg at h
  cases t with
  | name i =>
    dsimp only at h
    split at h
    · simp only [Bool.and_eq_true, decide_eq_true_eq] at h
      obtain ⟨h1, h2⟩ := C.sto h.1.2
      exact sndG_name C.nd' (C.ix h.1.1) h1 h2 h.2
    · cases h
  | tup ts =>
    dsimp only at h
    split at h
    · simp only [Bool.and_eq_true, decide_eq_true_eq] at h
      obtain ⟨h1, h2⟩ := asgs_len h.1.1 X.env
      exact sndG_tup C.calm (ih.gs C h.2 hb) (h1.trans h.1.2) h2
    · cases h
  | star ts i us =>
    dsimp only at h
    split at h
    · exact sndG_starN C.calm C.nd' (fun h => C.ix h) (fun h => C.sto h) h
    · cases h
  | sub a i =>
    dsimp only at h
    split at h
    · rename_i o y pos
      simp only [Bool.and_eq_true, Bool.not_eq_true'] at h
      refine sndG_sub hb (ih.e C h.1.2 hb).1 (ih.e C h.2 hb).1 fun v => ?_
      have hy := h.1.1
      cases y <;> first | rfl | (simp [isSlc] at hy)
    · cases h
theorem str_of {x y : Str} (h : decide (x = y) = true) : x = y := of_decide_eq_true h
theorem sn_i {n : Nat} (ih : Sn c N XR k cf n) {XR' : Nat → Option P → XK → Hp → Prop} {X : Cx} {q : Pl} {W : WX} (C : Ctx c N XR XR' k cf X q W) {tg x : Expr} {a : I} (h : okI c N (n + 1) q tg x a = true) {bs : List Nat} {b0 : Nat} (hb : ∀ b, b ∈ bs → b ≤ b0) : PI X tg x (rI X XR' bs W (evI cf b0 a)) := by
  unfold okI at h
  cases a with
  | e a => exact sndI_e (ih.e C h hb).1
  | rng1 a =>
    dsimp only at h
    split at h
    · simp only [Bool.and_eq_true, Bool.not_eq_true', decide_eq_true_eq] at h
      obtain ⟨⟨⟨h1, h2⟩, h3⟩, h4⟩ := h
      subst h1
      exact sndI_rng1 (C.free h2).1 (C.free h2).2 (ih.e C h4 hb).1 (star_cons h3 _ _) (star_cons h3 _ _)
    · cases h
  | rng2 a b =>
    dsimp only at h
    split at h
    · simp only [Bool.and_eq_true, Bool.not_eq_true', decide_eq_true_eq] at h
      obtain ⟨⟨⟨⟨⟨h1, h2⟩, h3⟩, h3'⟩, h4⟩, h5⟩ := h
      subst h1
      exact sndI_rng2 (C.free h2).1 (C.free h2).2 (ih.e C h4 hb).1 (ih.e C h5 hb).1 (star_cons h3 _ _) (star_cons h3' _ _) (by rw [star_cons h3, star_cons h3']; rfl) (star_cons h3' _ _)
    · cases h
  | enum a =>
    dsimp only at h
    split at h
    · simp only [Bool.and_eq_true, Bool.not_eq_true', decide_eq_true_eq] at h
      obtain ⟨⟨⟨h1, h2⟩, h3⟩, h4⟩ := h
      subst h1
      exact sndI_enum (C.free h2).1 (C.free h2).2 (ih.e C h4 hb).1 (star_cons h3 _ _) (star_cons h3 _ _)
    · cases h
  | zip a b =>
    dsimp only at h
    split at h
    · simp only [Bool.and_eq_true, Bool.not_eq_true', decide_eq_true_eq] at h
      obtain ⟨⟨⟨⟨⟨h1, h2⟩, h3⟩, h3'⟩, h4⟩, h5⟩ := h
      subst h1
      exact sndI_zip (C.free h2).1 (C.free h2).2 (ih.e C h4 hb).1 (ih.e C h5 hb).1 (star_cons h3 _ _) (star_cons h3' _ _) (by rw [star_cons h3']; rfl)
    · cases h
  | rev a =>
    dsimp only at h
    split at h
    · simp only [Bool.and_eq_true, Bool.not_eq_true', decide_eq_true_eq] at h
      obtain ⟨⟨⟨h1, h2⟩, h3⟩, h4⟩ := h
      subst h1
      exact sndI_rev (C.free h2).1 (C.free h2).2 (ih.e C h4 hb).1 (star_cons h3 _ _)
    · cases h
theorem own_sub {ws : List Nat} {i : Nat} (h : i ∈ (ownOf N ws).map (·.2)) : i ∈ ws := by
  obtain ⟨p, hp, rfl⟩ := List.mem_map.mp h
  obtain ⟨j, hj, e⟩ := List.mem_filterMap.mp hp
  obtain ⟨x, _, e2⟩ := Option.map_eq_some_iff.mp e
  subst e2
  exact hj
theorem sn_co {n : Nat} (ih : Sn c N XR k cf n) {XR' : Nat → Option P → XK → Hp → Prop} {X : Cx} {q : Pl} {W : WX} (C : Ctx c N XR XR' k cf X q W) {x : Expr} {a : E} {tg : Expr} {t : Tg} {iter : Expr} {it : I} {ifs : List Expr} {kk : Eo} {scope : Scope} (h : okCo c N (n + 1) q x a tg t iter it ifs kk scope = true)
    {bs : List Nat} {b0 : Nat} (hb : ∀ b, b ∈ bs → b ≤ b0) : GoodC X XR' bs W cf b0 N x a tg t iter it ifs kk scope := by
  unfold okCo at h
  simp only [Bool.and_eq_true, Bool.not_eq_true'] at h
  obtain ⟨⟨⟨⟨⟨h1, h2⟩, h3⟩, h4⟩, h5⟩, h6⟩ := h
  refine ⟨ih.i C h3 hb, ?_, fun i => own_sub, fun s H A cl fp => ih.g (C.blk scope s H A cl fp) h4 hb, fun s H A cl fp => ?_, fun s H A cl fp => (ih.e (C.blk scope s H A cl fp) h5 hb).1, noset_fold h2 _⟩
  · rw [C.hN, C.sc]
    exact blkOk_by h1
  · split at h6
    · exact pts_yes
    · exact pts_one (ih.e (C.blk scope s H A cl fp) h6 hb).2.1
    · cases h6
end
end Ev

end
section
set_option maxHeartbeats 8000000
/-! Ev 27: what is checked is sound: the cases of an expression. -/
namespace Ev
open PySem PySem.Spec PyProof.Rows L2
section
variable {c : Cf} {N : List Str} {XR XR' : Nat → Option P → XK → Hp → Prop} {k : Nat} {cf : CF} {n : Nat} {X : Cx} {q : Pl} {W : WX} {bs : List Nat} {b0 : Nat}
theorem PT.rw' {x : Expr} {m m' : Env → M Bool} (h : PT X x (rT X XR' bs W m)) (e : ∀ σ, m' σ = m σ) : PT X x (rT X XR' bs W m') := by
  have : m' = m := funext e
  rw [this]; exact h
theorem PW.rw' {x : Expr} {m m' : Env → M Bool} (h : PW X x (rT X XR' bs W m)) (e : ∀ σ, m' σ = m σ) : PW X x (rT X XR' bs W m') := by
  have : m' = m := funext e
  rw [this]; exact h
theorem PE.rw' {x : Expr} {m m' : Env → M D} (h : PE X x (rE X XR' bs W m)) (e : ∀ σ, m' σ = m σ) : PE X x (rE X XR' bs W m') := by
  have : m' = m := funext e
  rw [this]; exact h
theorem bop_eq {o : Bop} {op : Operator} (h : bopB o op = true) : bopOf o = op := of_decide_eq_true h
theorem cop_eq {o : Cop} {op : CmpOp} (h : copB o op = true) : copOf o = op := of_decide_eq_true h
theorem con_ok {kc : Const} {d : P} {j : Nat} {pos : Pos} (h : conP kc d = true) : PE X (.Constant kc j pos) (rE X XR' bs W fun _ => M.ret (.p d)) := by
  cases kc <;> cases d <;> first | (simp [conP] at h; done) | skip
  · exact snd_lit pe_non fun _ _ => .non
  · simp only [conP, beq_iff_eq] at h; subst h; exact snd_lit pe_bl fun _ _ => .bl _
  · simp only [conP, decide_eq_true_eq] at h; subst h; exact snd_lit pe_int fun _ _ => .int _
  · simp only [conP, decide_eq_true_eq] at h; subst h; exact snd_lit pe_str fun _ _ => .str _
/-- how many values an argument list gives -/
theorem evEs_len : ∀ {n : Nat} {xs : List Expr} {es : Es}, okEs c N n q xs es = true → noStar xs = true → ∀ (σ : Env) (s s' : Store) (ds : List D), evEs cf b0 es σ s = .ok ds s' → ds.length = xs.length
  | 0, _, _, h, _ => by simp [okEs] at h
  | n + 1, xs, es, h, ns => by
    intro σ s s' ds e
    unfold okEs at h
    cases es with
    | nil =>
      cases xs with
      | nil => cases e; rfl
      | cons _ _ => simp at h
    | cons a es =>
      cases xs with
      | nil => simp at h
      | cons x xs =>
        simp only [Bool.and_eq_true, Bool.not_eq_true'] at h
        simp only [noStar, Bool.and_eq_true, Bool.not_eq_true'] at ns
        obtain ⟨y, s1, e1, e⟩ := bnd_ok e
        obtain ⟨ys, s2, e2, e⟩ := bnd_ok e
        cases e
        rw [List.length_cons, List.length_cons, evEs_len h.2 ns.2 _ _ _ _ e2]
    | star a es =>
      dsimp only at h
      split at h
      · simp [noStar, isStar] at ns
      · cases h
theorem rA_len {m : Env → M (List D)} {l : Nat} (hl : ∀ (σ : Env) (s s' : Store) (ds : List D), m σ s = .ok ds s' → ds.length = l) : ∀ σ H Q, rA X XR' bs W m σ H Q → rA X XR' bs W m σ H fun vs H' => vs.length = l ∧ Q vs H' := by
  rintro σ H Q ⟨ex, bt, st, env, S, V, C⟩
  refine ⟨ex, bt, st, env, S, V, ?_⟩
  revert C
  cases e : m env st with
  | ok ds s => exact fun C vs H' ex' bt' E' S' r => ⟨by rw [rpds_len r]; exact hl _ _ _ _ e, C vs H' ex' bt' E' S' r⟩
  | exn c v s => exact id
  | bad => exact id
theorem _root_.L2.PK.imp {X : Cx} {e : List Keyword} {t t' : TA} (h : PK X e t) (i : ∀ σ H Q, t' σ H Q → t σ H Q) : PK X e t' := ⟨fun pos pins s σ H Q I q => h.run pos pins s σ H Q I (i σ H Q q)⟩
/-- keywords' values -/
theorem pk_of : ∀ {n : Nat} {kws : List Keyword} {es : Es}, Sn c N XR k cf n → Ctx c N XR XR' k cf X q W → okEs c N n q (kws.map (·.value)) es = true → noStar (kws.map (·.value)) = true → (∀ b, b ∈ bs → b ≤ b0) → (∀ m, m ≤ n → Sn c N XR k cf m) → PK X kws (rA X XR' bs W (evEs cf b0 es))
  | 0, _, _, _, _, h, _, _, _ => by simp [okEs] at h
  | n + 1, [], es, _, _, h, _, _, _ => by
    unfold okEs at h
    cases es with
    | nil => exact pk_nil.imp fun σ H Q ⟨ex, bt, st, env, S, V, C⟩ => Cont.ret S C .nil
    | cons _ _ => simp at h
    | star _ _ => simp at h
  | n + 1, ⟨nm, x, kp⟩ :: kws, es, ih, C, h, ns, hb, all => by
    unfold okEs at h
    cases es with
    | nil => simp at h
    | cons a es =>
      simp only [List.map_cons, Bool.and_eq_true, Bool.not_eq_true'] at h
      simp only [List.map_cons, noStar, Bool.and_eq_true, Bool.not_eq_true'] at ns
      have ih' := all n (Nat.le_succ n)
      have h1 := (ih'.e C h.1.2 hb).1
      have h2 := pk_of ih' C h.2 ns.2 hb fun m hm => all m (Nat.le_succ_of_le hm)
      refine (pk_cons (nm := nm) (kpos := kp) h1 h2).imp fun σ H Q ⟨ex, bt, st, env, S, V, C1⟩ => ?_
      refine ⟨ex, bt, st, env, S, V, (Cont.bnd S C1).mono fun x H1 ⟨d, ex1, bt1, st1, E1, S1, R1, C1⟩ => ?_⟩
      refine ⟨ex1, bt1, st1, env, S1, V.ext S E1, (Cont.bnd S1 C1).mono fun xs H2 ⟨ds, ex2, bt2, st2, E2, S2, R2, C2⟩ => ?_⟩
      exact Cont.ret S2 C2 (.cons (RpD.ext S1 E2 R1) R2)
    | star a es =>
      dsimp only [List.map_cons] at h
      split at h
      · rename_i e
        simp only [List.map_cons, noStar, Bool.and_eq_true, Bool.not_eq_true'] at ns
        cases e
        simp [isStar] at ns
      · cases h
end
end Ev

end
section
set_option maxHeartbeats 16000000
/-! Ev 28: what is checked is sound: an expression. -/
namespace Ev
open PySem PySem.Spec PyProof.Rows L2
section
variable {c : Cf} {N : List Str} {XR XR' : Nat → Option P → XK → Hp → Prop} {k : Nat} {cf : CF} {n : Nat} {X : Cx} {q : Pl} {W : WX} {bs : List Nat} {b0 : Nat}
theorem call_wide {ds : List D} {st : Store} {K : KW} {E : XK} {ex : List Addr} {bt : Bt} {H : Hp} {Q : VK} {m : List D → M D} (hx : ∀ cl x Y H, XR' cl x Y H → XR cl x Y H) (h : Cont K XR' bs E (RpD K) ex bt H (m ds st) Q) : Cont K XR bs E (RpD K) ex bt H (m ds st) Q := h.wider hx
theorem sn_call (ih : Sn c N XR k cf n) (C : Ctx c N XR XR' k cf X q W) {x : Str} {p pos : Pos} {xs : List Expr} {f : Nat} {es : Es} (hb : ∀ b, b ∈ bs → b ≤ b0) (h1 : glB q.sc x = true) (h2 : plainN x = true) (h3 : c.fns.lookup x = some f) (h4 : noStar xs = true) (h5 : okEs c N n q xs es = true) :
    PE X (.Call (.Name x p) xs [] pos) (rE X XR' bs W fun σ => (evEs cf b0 es σ).bnd (cf f)) := by
  obtain ⟨a, fd, ps, g1, g2, g3, g4, g5⟩ := C.fa.fn x f h3
  cases xs with
  | nil =>
    refine (pe_callG0 g5 C.room C.grd C.tk (C.gl h1) g1 g2 g3 (plainN_ok h2).1).imp fun σ H Q ⟨ex, bt, st, env, S, V, C1⟩ => ?_
    have e : es = .nil := by
      cases n with
      | zero => simp [okEs] at h5
      | succ n =>
        unfold okEs at h5
        cases es with
        | nil => rfl
        | cons _ _ => simp at h5
        | star _ _ => simp at h5
    subst e
    exact ⟨bs, ex, bt, st, [], S, .nil, Cont.wider C.xr C1⟩
  | cons y ys =>
    simp only [noStar, Bool.and_eq_true, Bool.not_eq_true'] at h4
    refine (pe_callG g5 C.room C.grd C.tk (C.gl h1) g1 g2 g3 (ih.es C h5 hb) (plainN_ok h2).1 (star_cons h4.1 _ _) (nostar_any h4.2 _ _)).imp fun σ H Q ⟨ex, bt, st, env, S, V, C1⟩ => ⟨ex, bt, st, env, S, V, (Cont.bnd S C1).mono fun vs H1 ⟨ds, ex1, bt1, st1, E1, S1, R1, C2⟩ => ⟨bs, ex1, bt1, st1, ds, S1, R1, Cont.wider C.xr C2⟩⟩
theorem keys_facts : ∀ {kws : List Keyword}, kws.all (·.arg.isSome) = true → ∀ (pos : Pos) (env : PySem.Env), (backToKw pos (keywordEach kws env)).all (·.1.isSome) = true ∧ (backToKw pos (keywordEach kws env)).filterMap (·.1) = kws.filterMap (·.arg) ∧ kws.length = (kws.filterMap (·.arg)).length ∧ (backToKw pos (keywordEach kws env)).any (·.1.isNone) = false
  | [], _, _, _ => ⟨rfl, rfl, rfl, rfl⟩
  | ⟨nm, v, kp⟩ :: kws, h, pos, env => by
    rw [List.all_cons, Bool.and_eq_true] at h
    obtain ⟨h1, h2, h3, h4⟩ := keys_facts h.2 pos env
    have e : backToKw pos (keywordEach (⟨nm, v, kp⟩ :: kws) env) = (nm, (do let v ← eval v env; standAt pos; pure v)) :: backToKw pos (keywordEach kws env) := rfl
    cases nm with
    | none => simp at h
    | some nm =>
      rw [e]
      refine ⟨by rw [List.all_cons, h1]; rfl, by rw [List.filterMap_cons, List.filterMap_cons, h2], by rw [List.filterMap_cons]; simp only [List.length_cons]; rw [← h3], by rw [List.any_cons, h4]; rfl⟩
theorem rpds_pick {K : KW} {H : Hp} {ex : List Addr} {bt : Bt} {vs : List L2.V} {ds : List D} (r : RpDs K H ex bt vs ds) : ∀ pm : List Nat, RpDs K H ex bt (pm.filterMap fun i => vs[i]?) (pm.filterMap fun i => ds[i]?)
  | [] => .nil
  | i :: pm => by
    have g : ∀ i : Nat, (vs[i]? = none ∧ ds[i]? = none) ∨ ∃ v d, vs[i]? = some v ∧ ds[i]? = some d ∧ RpD K H ex bt v d := by
      induction r with
      | nil => exact fun i => .inl ⟨rfl, rfl⟩
      | cons q t ih =>
        intro i
        cases i with
        | zero => exact .inr ⟨_, _, rfl, rfl, q⟩
        | succ i => exact ih i
    rw [List.filterMap_cons, List.filterMap_cons]
    rcases g i with ⟨e1, e2⟩ | ⟨v, d, e1, e2, q⟩
    · rw [e1, e2]; exact rpds_pick r pm
    · rw [e1, e2]; exact .cons q (rpds_pick r pm)
theorem sn_callk (all : ∀ m, m ≤ n → Sn c N XR k cf m) (C : Ctx c N XR XR' k cf X q W) {x : Str} {p pos : Pos} {xs : List Expr} {kws : List Keyword} {f : Nat} {pm : List Nat} {es ks : Es} (hb : ∀ b, b ∈ bs → b ≤ b0) (h1 : glB q.sc x = true) (h2 : plainN x = true) (h3 : c.fns.lookup x = some f) (h4 : noStar xs = true)
    (h5 : kws.all (·.arg.isSome) = true) (h6 : noStar (kws.map (·.value)) = true) (h7 : (f, kws.filterMap (·.arg), xs.length, pm) ∈ c.kws) (h8 : okEs c N n q xs es = true) (h9 : okEs c N n q (kws.map (·.value)) ks = true) :
    PE X (.Call (.Name x p) xs kws pos) (rE X XR' bs W fun σ => (evEs cf b0 es σ).bnd fun xs => (evEs cf b0 ks σ).bnd fun ys => cf f (pm.filterMap fun i => (xs ++ ys)[i]?)) := by
  obtain ⟨a, fd, ps, g1, g2, g3, g4, g5⟩ := C.fa.fn x f h3
  have kb := g4 _ _ _ h7
  have ih := all n (Nat.le_refl n)
  have pk : PK X kws (rA X XR' bs W (evEs cf b0 ks)) := pk_of ih C h9 h6 hb all
  obtain ⟨k1, k2, k3, k4⟩ := keys_facts h5 pos X.env
  have l2 := evEs_len (cf := cf) (b0 := b0) h9 h6
  rw [List.length_map] at l2
  cases xs with
  | nil =>
    have e : es = .nil := by
      cases n with
      | zero => simp [okEs] at h8
      | succ n =>
        unfold okEs at h8
        cases es with
        | nil => rfl
        | cons _ _ => simp at h8
        | star _ _ => simp at h8
    subst e
    refine (pe_callGK0 g5 C.room C.grd C.tk (C.gl h1) g1 g2 kb pk k1 k2 (fun σ H Q h => ?_) (plainN_ok h2).1 ?_).imp fun σ H Q ⟨ex, bt, st, env, S, V, C1⟩ => ?_
    · rw [← k3]
      exact rA_len l2 σ H Q h
    · rw [k4]; rfl
    · have C1 : Cont (kw X) XR' bs (fun c d H => W c d σ H) (RpD (kw X)) ex bt H (((evEs cf b0 ks env).bnd fun ys => cf f (pm.filterMap fun i => (([] : List D) ++ ys)[i]?)) st) Q := C1
      refine ⟨ex, bt, st, env, S, V, (Cont.bnd S C1).mono fun vs H1 ⟨ds, ex1, bt1, st1, E1, S1, R1, C2⟩ => ⟨(Nat.zero_add _).symm, bs, ex1, bt1, st1, _, S1, ?_, Cont.wider C.xr C2⟩⟩
      rw [List.nil_append, List.nil_append]
      exact rpds_pick R1 pm
  | cons y ys =>
    have h4' := h4
    simp only [noStar, Bool.and_eq_true, Bool.not_eq_true'] at h4'
    refine (pe_callGK (n := ys.length + 1) g5 C.room C.grd C.tk (C.gl h1) g1 g2 kb rfl (ih.es C h8 hb) pk k1 k2 k3 (fun σ H Q h => rA_len (evEs_len h8 h4) σ H Q h) (fun σ H Q h => ?_) (plainN_ok h2).1 (star_cons h4'.1 _ _) ?_).imp fun σ H Q ⟨ex, bt, st, env, S, V, C1⟩ => ?_
    · rw [← k3]
      exact rA_len l2 σ H Q h
    · rw [k4, nostar_any h4]; rfl
    · refine ⟨ex, bt, st, env, S, V, (Cont.bnd S C1).mono fun vs H1 ⟨ds, ex1, bt1, st1, E1, S1, R1, C2⟩ => ?_⟩
      refine ⟨ex1, bt1, st1, env, S1, V.ext S E1, (Cont.bnd S1 C2).mono fun us H2 ⟨es2, ex2, bt2, st2, E2, S2, R2, C3⟩ => ⟨(Nat.zero_add _).symm, bs, ex2, bt2, st2, _, S2, ?_, Cont.wider C.xr C3⟩⟩
      exact rpds_pick (rpds_append (RpDs.ext S1 E2 R1) R2) pm
end
end Ev

end
section
/-! Ev 37: comprehensions over open lists that stand as they are at each turn. -/
namespace Ev
open PySem PySem.Spec PyProof.Rows L2
mutual
theorem same_eq : ∀ x y : P, sameP x y = true → x = y
  | .none, y, h => by cases y <;> first | rfl | (simp [sameP] at h)
  | .bool a, y, h => by cases y <;> first | (simp [sameP] at h; rw [h]) | (simp [sameP] at h)
  | .int a, y, h => by cases y <;> first | (simp [sameP] at h; rw [h]) | (simp [sameP] at h)
  | .str a, y, h => by cases y <;> first | (simp [sameP] at h; rw [h]) | (simp [sameP] at h)
  | .list xs, y, h => by
    cases y with
    | list ys => simp only [sameP] at h; rw [sames_eq xs ys h]
    | _ => simp [sameP] at h
  | .tuple xs, y, h => by
    cases y with
    | tuple ys => simp only [sameP] at h; rw [sames_eq xs ys h]
    | _ => simp [sameP] at h
  | .dict _, y, h => by cases y <;> simp [sameP] at h
theorem sames_eq : ∀ xs ys : List P, samePs xs ys = true → xs = ys
  | [], ys, h => by
    cases ys with
    | nil => rfl
    | cons _ _ => simp [samePs] at h
  | x :: xs, ys, h => by
    cases ys with
    | nil => simp [samePs] at h
    | cons y ys =>
      simp only [samePs, Bool.and_eq_true] at h
      rw [same_eq x y h.1, sames_eq xs ys h.2]
end
theorem chk_ok {l : Nat} {ps : List P} {st s : Store} {u : Unit} (h : chkL l ps st = .ok u s) : s = st ∧ ∃ ds, st[l]? = some (.lst ds) ∧ pures ds = some ps := by
  unfold chkL at h
  split at h
  · rename_i ds e
    split at h
    · rename_i qs e2
      split at h
      · rename_i e3
        cases h
        exact ⟨rfl, ds, e, by rw [e2, sames_eq _ _ e3]⟩
      · cases h
    · cases h
  · cases h
theorem live_ok {env : Env} {i : Nat} {lx : Nat × List P} {st s : Store} (h : liveV env i st = .ok lx s) : s = st ∧ env[i]? = some (some (.loc lx.1)) ∧ ∃ ds, st[lx.1]? = some (.lst ds) ∧ pures ds = some lx.2 := by
  unfold liveV at h
  split at h
  · rename_i l e
    split at h
    · rename_i ds e1
      split at h
      · rename_i ps e2
        cases h
        exact ⟨rfl, e, ds, e1, e2⟩
      · cases h
    · cases h
  · cases h
theorem live_cases (env : Env) (i : Nat) (st : Store) : (∃ lx, liveV env i st = .ok lx st) ∨ liveV env i st = .bad := by
  unfold liveV
  split
  · split
    · split
      · exact .inl ⟨_, rfl⟩
      · exact .inr rfl
    · exact .inr rfl
  · exact .inr rfl
/-- the iterator gives what the open list holds, as long as it stands -/
def ItOkV (K : KW) (H : Hp) (ex : List Addr) (bt : Bt) (J : It) (lx : Nat × List P) : Prop :=
  ∀ (bs : List Nat) (ex1 : List Addr) (bt1 : Bt) (st1 : Store) (H1 : Hp), SRel K bs ex1 bt1 st1 H1 → Ext ex bt H ex1 bt1 H1 → (∃ ds, st1[lx.1]? = some (.lst ds) ∧ pures ds = some lx.2) → ∀ i : Nat,
    (lx.2.length = i → J.stop i H1) ∧ ∀ p, lx.2[i]? = some p → J.go i H1 ∧ ∀ x H2, J.yld i H1 x H2 → H2 = H1 ∧ Rp K H1 ex1 x p
theorem itv_loc {K : KW} {H : Hp} {ex : List Addr} {bt : Bt} {a : Addr} {l : Nat} {ps : List P} (h : bt[l]? = some (some a)) : ItOkV K H ex bt (Itl K a) (l, ps) := by
  rintro bs ex1 bt1 st1 H1 S1 E ⟨ds, h1, h2⟩ i
  obtain ⟨a', vs, q1, q2, q3⟩ := S1.obj _ _ h1
  have ea : a' = a := by
    rcases E.old l _ h with z | z
    · rw [q1] at z; cases z; rfl
    · rw [q1] at z; cases z
  subst ea
  have r := pures_loc h2 q3
  have sq : SqL K H1 a' vs := SqL.of q2
  have hl : vs.length = ps.length := r.length
  refine ⟨fun hi => ⟨vs, sq, by rw [hl]; exact Nat.le_of_eq hi⟩, fun p hp => ?_⟩
  have hi := (List.getElem?_eq_some_iff.mp hp).1
  refine ⟨⟨vs, _, sq, List.getElem?_eq_getElem (by rw [hl]; exact hi)⟩, fun x H2 y => ?_⟩
  have hx := y.2 vs sq
  obtain ⟨p', e1, e2⟩ := r.get hx
  rw [e1] at hp
  cases hp
  exact ⟨y.1, e2⟩
section
variable {X : Cx} {XR : Nat → Option P → XK → Hp → Prop} {bs : List Nat} {W : WX} {e tg iter elt : Expr} {es : List Expr} {sts : List Stmt} {pos p : Pos} {ma mb : Env → M D}
abbrev rV (X : Cx) (XR : Nat → Option P → XK → Hp → Prop) (bs : List Nat) (W : WX) (m : Env → M (Nat × List P)) : TI := fun σ H R =>
  ∃ ex bt st env, SRel (kw X) bs ex bt st H ∧ EnvR (kw X) H ex bt env σ ∧ Cont (kw X) XR bs (fun c d H => W c d σ H) (ItOkV (kw X)) ex bt H (m env st) R
theorem sndV_var {i : Nat} {x : Str} (hN : X.N[i]? = some x) (hv : Vis X.env.scope x) (hd : (x == ("__debug__" : Str)) = false) (hc : (x == ("__classdict__" : Str)) = false) : PI X tg (.Name x pos) (rV X XR bs W fun σ => liveV σ i) := by
  refine (pi_any (snd_var (XR := XR) (bs := bs) (W := W) hN hv hd hc)).imp fun σ H R ⟨ex, bt, st, env, S, V, C⟩ => ⟨ex, bt, st, env, S, V, ?_⟩
  have C : Cont (kw X) XR bs (fun c d H => W c d σ H) (ItOkV (kw X)) ex bt H (liveV env i st) R := C
  rcases live_cases env i st with ⟨lx, e⟩ | e
  · rw [e] at C
    obtain ⟨_, e1, ds, e2, e3⟩ := live_ok e
    dsimp only
    rw [e1]
    intro v H' ex' bt' E' S' r
    obtain ⟨a, vs, q1, q2, q3⟩ := S'.obj _ _ e2
    have hv : v = .ref a := r.2 a q1
    exact .inl ⟨a, hv, ⟨_, SqL.of q2⟩, C _ H' ex' bt' E' S' (itv_loc q1)⟩
  · rw [e] at C
    exact (show False from C).elim
theorem chk_bnd {γ ν : Type} {K : KW} {Y : XK} {R : Hp → List Addr → Bt → ν → γ → Prop} {ex : List Addr} {bt : Bt} {H : Hp} {l : Nat} {ps : List P} {f : Unit → M γ} {st : Store} {Q : ν → Hp → Prop} (h : Cont K XR bs Y R ex bt H (((chkL l ps).bnd f) st) Q) :
    (∃ ds, st[l]? = some (.lst ds) ∧ pures ds = some ps) ∧ Cont K XR bs Y R ex bt H (f () st) Q := by
  cases e : chkL l ps st with
  | ok b s =>
    obtain ⟨rfl, q⟩ := chk_ok e
    refine ⟨q, ?_⟩
    have e2 : ((chkL l ps).bnd f) s = f () s := by unfold M.bnd; rw [e]
    rw [e2] at h
    exact h
  | exn c v s =>
    exfalso
    unfold chkL at e
    split at e <;> try cases e
    split at e <;> try cases e
    split at e <;> cases e
  | bad =>
    have e2 : ((chkL l ps).bnd f) st = .bad := by unfold M.bnd; rw [e]
    rw [e2] at h
    exact (show False from h).elim
theorem comp_rdV {vs ws : List Nat} {mi : Env → M (Nat × List P)} {mg : Env → D → M Env} {mt : Env → M Bool} {me : Env → M D} (hv : ∀ i, i ∈ vs → i ∈ ws) {σ : L2.St} {H : Hp} {Q : VK}
    (h : rC X XR bs W (fun σ => (mi σ).bnd fun lx => (compGo (fun x => (chkL lx.1 lx.2).bnd fun _ => turnM ws mg mt (oneM me) σ x) lx.2 []).bnd fun ys => (chkL lx.1 lx.2).bnd fun _ => M.ret ys) σ H Q) : tLc (rV X XR bs W mi) (rGw X bs vs mg) (rT X noX bs noW mt) (rE X noX bs noW me) vs σ H Q := by
  obtain ⟨ex, bt, st, env, S, V, C⟩ := h
  refine ⟨ex, bt, st, env, S, V, (Cont.bnd S C).mono fun J H1 ⟨⟨l, ps⟩, ex1, bt1, st1, E1, S1, J1, C1⟩ => fun Dd hD => ?_⟩
  have V1 := V.ext S E1
  let f : P → M (List P) := fun x => (chkL l ps).bnd fun _ => turnM ws mg mt (oneM me) env x
  refine ⟨fun i m H' => m = ps.length - i ∧ i ≤ ps.length ∧ ∃ ex' bt' st' acc qs, Acc (kw X) bs H1 ex1 bt1 Dd H' ex' bt' st' acc qs ∧ acc.length = qs.length ∧ Cont (kw X) XR bs (fun c d H => W c d σ H) (RC (kw X) H) ex1 bt1 H1 (((compGo f (ps.drop i) qs).bnd fun ys => (chkL l ps).bnd fun _ => M.ret ys) st') Q,
    ⟨ps.length, rfl, Nat.zero_le _, Dd :: ex1, bt1, st1, [], [], ⟨Ext.own hD, S1.own hD, hD, upd_same, List.mem_cons_self, S1.notBt hD, .nil⟩, rfl, C1⟩, ?_⟩
  rintro i m H2 ⟨rfl, hle, ex2, bt2, st2, acc, qs, a, hl, C2⟩
  by_cases hlt : i < ps.length
  · rw [List.drop_eq_getElem_cons hlt, compGo_cons] at C2
    rw [bnd_assoc] at C2
    have C2' : Cont (kw X) XR bs (fun c d H => W c d σ H) (RC (kw X) H) ex1 bt1 H1 (((chkL l ps).bnd fun _ => (turnM ws mg mt (oneM me) env ps[i]).bnd fun ys => (if decide (qs.length + ys.length < line) then compGo f (ps.drop (i + 1)) (qs ++ ys) else M.bad).bnd fun ys => (chkL l ps).bnd fun _ => M.ret ys) st2) Q := by
      have e : ∀ (m : M Unit) (g : Unit → M (List P)) (h : List P → M (List P)), ((m.bnd g).bnd h) = m.bnd fun u => (g u).bnd h := fun m g h => bnd_assoc ..
      rw [e] at C2
      exact C2
    obtain ⟨lv, C2⟩ := chk_bnd C2'
    obtain ⟨j1, j2⟩ := J1 bs ex2 bt2 st2 H2 a.S a.E lv i
    obtain ⟨go, yl⟩ := j2 _ (List.getElem?_eq_getElem hlt)
    refine .inr ⟨go, _, fun H' (h : ∃ ex' bt' st' acc qs, Acc (kw X) bs H1 ex1 bt1 Dd H' ex' bt' st' acc qs ∧ acc.length = qs.length ∧ Cont (kw X) XR bs (fun c d H => W c d σ H) (RC (kw X) H) ex1 bt1 H1 (((compGo f (ps.drop (i + 1)) qs).bnd fun ys => (chkL l ps).bnd fun _ => M.ret ys) st') Q) => ⟨ps.length - (i + 1), by omega, rfl, hlt, h⟩, fun x H3 y => ?_⟩
    obtain ⟨rfl, r3⟩ := yl x H3 y
    have a3 := a
    have S3 := a.S
    obtain ⟨ys, s0, ey, C2⟩ := calm_bnd C2
    have C3 : Cont (kw X) noX bs (fun _ _ _ => False) (fun H ex _ (us : List L2.V) (ys : List P) => Rps (kw X) H ex us ys) ex2 bt2 H3 (((mg (wipeE env ws) (.p ps[i])).bnd fun σ' => (mt σ').bnd fun b => if b then oneM me σ' else M.ret []) st2) fun us H' => ∃ ex' bt', Ext ex2 bt2 H3 ex' bt' H' ∧ SRel (kw X) bs ex' bt' s0 H' ∧ Rps (kw X) H' ex' us ys := by
      rw [ey]
      exact fun v H' ex' bt' E' S' r => ⟨ex', bt', E', S', r⟩
    refine ⟨ex2, bt2, st2, wipeE env ws, .p ps[i], S3, ((V1.ext S1 a3.E).wipe hv), r3, (Cont.bnd S3 C3).mono fun σ4 H4 ⟨env4, ex4, bt4, st4, E4, S4, V4, C4⟩ hw4 => ⟨?_, ?_⟩⟩
    · rw [wipe_wipe] at hw4; exact hw4
    · refine turn_ok S1 (fun _ _ _ h => h) (fun _ _ _ h => h) a3 (a3.ext S1 E4 S4) V4 C4 (fun ez H5 ex5 bt5 a5 => ?_) fun p ez H5 ex5 bt5 v a5 r5 => ?_
      · subst ez
        split at C2
        · rw [List.append_nil] at C2
          exact ⟨ex5, bt5, s0, acc, qs, a5, hl, C2⟩
        · exact (show False from C2).elim
      · subst ez
        split at C2
        · rename_i hz
          have hz := of_decide_eq_true hz
          simp only [List.length_cons] at hz
          exact ⟨by rw [line_eq, hl]; omega, ex5, bt5, s0, acc ++ [v], qs ++ [p], a5.app r5, by rw [List.length_append, List.length_append, hl]; rfl, C2⟩
        · exact (show False from C2).elim
  · have e : i = ps.length := by omega
    subst e
    rw [List.drop_length] at C2
    have C2' : Cont (kw X) XR bs (fun c d H => W c d σ H) (RC (kw X) H) ex1 bt1 H1 (((chkL l ps).bnd fun _ => M.ret qs) st2) Q := C2
    obtain ⟨lv, C3⟩ := chk_bnd C2'
    obtain ⟨j1, j2⟩ := J1 bs ex2 bt2 st2 H2 a.S a.E lv ps.length
    refine .inl ⟨j1 rfl, C3 _ H2 ex2 bt2 a.E a.S ⟨Dd, acc, rfl, E1.back hD, a.h, a.x, a.b, a.r⟩⟩
theorem sndC_compV {ifs : List Expr} {scope : Scope} {own : List (Str × Nat)} {ws : List Nat} {mi : Env → M (Nat × List P)} {mg : Env → D → M Env} {mt : Env → M Bool} {me : Env → M D} (hc : X.calm = true) (hN : X.N.Nodup) (hi : PI X tg iter (rV X XR bs W mi)) (ok : BlkOk X.N X.env.scope scope own) (hv : ∀ i, i ∈ own.map (·.2) → i ∈ ws)
    (hg : ∀ (s : Shared) (H : Hp) (C : Addr) (cl : List (Str × Addr)) (fp : List Addr), PG (blkX X scope s H C cl fp) tg (rGw X bs (own.map (·.2)) mg)) (ht : ∀ (s : Shared) (H : Hp) (C : Addr) (cl : List (Str × Addr)) (fp : List Addr), PTs (blkX X scope s H C cl fp) ifs (rT X noX bs noW mt))
    (he : ∀ (s : Shared) (H : Hp) (C : Addr) (cl : List (Str × Addr)) (fp : List Addr), PE (blkX X scope s H C cl fp) elt (rE X noX bs noW me)) (hs : ∀ x, foldedSetIterable iter X.env x = pure x) :
    PE X (.ListComp elt [⟨tg, iter, ifs, 0⟩] scope pos) (rC X XR bs W fun σ => (mi σ).bnd fun lx => (compGo (fun x => (chkL lx.1 lx.2).bnd fun _ => turnM ws mg mt (oneM me) σ x) lx.2 []).bnd fun ys => (chkL lx.1 lx.2).bnd fun _ => M.ret ys) :=
  (pe_lc hc hN hi ok hg ht he hs).imp fun σ H Q h => comp_rdV hv h
end
end Ev

end
section
/-! Ev 43: set comprehensions. -/
namespace Ev
open PySem PySem.Spec PyProof.Rows L2
section
variable {K : KW} {bs : List Nat} {ex ex1 : List Addr} {bt bt1 : Bt} {st : Store} {H H1 : Hp} {p : Addr}
/-- an object of our own of any kind -/
theorem SRel.ownX {o : HO} (S : SRel K bs ex bt st H) (hn : H p = none) : SRel K bs (p :: ex) bt st (upd H p o) := by
  have E : Ext ex bt H (p :: ex) bt (upd H p o) := Ext.own hn
  refine ⟨S.len, S.low, fun a h => List.mem_cons_of_mem _ (S.live a h), S.inj, fun a h => ?_, fun a h => ?_, fun i xs h => ?_, S.dead, S.wf⟩
  · rcases List.mem_cons.mp h with e | e
    · exact ⟨_, by rw [e]; exact upd_same⟩
    · obtain ⟨o, h1⟩ := S.exH a e
      exact E.dom a o h1
  · obtain ⟨vs, e⟩ := S.isl a h
    exact ⟨vs, by rw [upd_ne (ne_of_none e hn)]; exact e⟩
  · obtain ⟨a, vs, h1, h2, h3⟩ := S.obj i xs h
    exact ⟨a, vs, h1, by rw [upd_ne (ne_of_none h2 hn)]; exact h2, RpDs.ext S E h3⟩
theorem RpD.putX {o : HO} (n1 : ∀ us, H p ≠ some (.tup us)) (n2 : ∀ a b, H p ≠ some (.frz a b)) (hx : p ∈ ex) : ∀ {v : V} {d : D}, RpD K H ex bt v d → RpD K (upd H p o) ex bt v d
  | _, .p _, h => Rp.put hx n1 n2 h
  | _, .loc i, h => h
  | _, .scr _, ⟨a, e, h⟩ => ⟨a, e, by
      rcases h with ⟨q, h⟩ | h
      · exact .inl ⟨q, by rw [upd_ne (fun z : a = p => n2 _ _ (by rw [← z]; exact h))]; exact h⟩
      · exact .inr h⟩
  | _, .iset _, ⟨a, T, e, h1, h2, h3⟩ => ⟨a, T, e, h1, by rw [upd_ne (fun z : a = p => h1 (by rw [z]; exact hx))]; exact h2, h3⟩
  | _, .tset _, ⟨a, T, e, h1, h2, h3⟩ => ⟨a, T, e, h1, by rw [upd_ne (fun z : a = p => h1 (by rw [z]; exact hx))]; exact h2, h3⟩
  | _, .fn _, h => h.elim
theorem SRel.ownPutX {o : HO} (S : SRel K bs ex bt st H) (n1 : ∀ us, H p ≠ some (.tup us)) (n2 : ∀ a b, H p ≠ some (.frz a b)) (hx : p ∈ ex) (nb : some p ∉ bt) : SRel K bs ex bt st (upd H p o) := by
  refine ⟨S.len, S.low, S.live, S.inj, fun a h => ?_, fun a h => ?_, fun i xs h => ?_, S.dead, S.wf⟩
  · by_cases e : a = p
    · exact ⟨_, by rw [e]; exact upd_same⟩
    · obtain ⟨o, h1⟩ := S.exH a h
      exact ⟨o, by rw [upd_ne e]; exact h1⟩
  · obtain ⟨vs, e⟩ := S.isl a h
    have z : a ≠ p := fun z => nb (by rw [← z]; exact h)
    exact ⟨vs, by rw [upd_ne z]; exact e⟩
  · obtain ⟨a, vs, h1, h2, h3⟩ := S.obj i xs h
    have z : a ≠ p := fun z => nb (by rw [← z]; exact List.mem_of_getElem? h1)
    exact ⟨a, vs, h1, by rw [upd_ne z]; exact h2, Paired.mapP h3 fun _ _ => RpD.putX n1 n2 hx⟩
theorem Ext.ownPutX {o : HO} (E : Ext ex1 bt1 H1 ex bt H) (hn : H1 p = none) : Ext ex1 bt1 H1 ex bt (upd H p o) := by
  refine ⟨fun a u h n => ?_, fun a u h => ?_, E.exs, E.exk, E.old, E.new⟩
  · rw [upd_ne (ne_of_none h hn)]; exact E.keep a u h n
  · rw [upd_ne (ne_of_none h hn)]; exact E.dom a u h
end
/-- the state of a set comprehension -/
structure AccS (K : KW) (bs : List Nat) (H0 : Hp) (ex0 : List Addr) (bt0 : Bt) (Dd : Addr) (H : Hp) (ex : List Addr) (bt : Bt) (st : Store) (ms : List Int) : Prop where
  E : Ext ex0 bt0 H0 ex bt H
  S : SRel K bs ex bt st H
  n : H0 Dd = none
  h : ∃ (f : Int → Bool) (l : List Int), H Dd = some (SetO K.w Dd f l.length) ∧ l.Nodup ∧ (∀ k, k ∈ l ↔ k ∈ ms) ∧ ∀ k, f k = true ↔ k ∈ ms
  x : Dd ∈ ex
  b : some Dd ∉ bt
theorem AccS.ext {K : KW} {bs bs0 : List Nat} {H0 : Hp} {ex0 : List Addr} {bt0 : Bt} {Dd : Addr} {H : Hp} {ex : List Addr} {bt : Bt} {st st1 st0 : Store} {ms : List Int} {H1 : Hp} {ex1 : List Addr} {bt1 : Bt} (S0 : SRel K bs0 ex0 bt0 st0 H0) (a : AccS K bs H0 ex0 bt0 Dd H ex bt st ms)
    (E : Ext ex bt H ex1 bt1 H1) (S : SRel K bs ex1 bt1 st1 H1) : AccS K bs H0 ex0 bt0 Dd H1 ex1 bt1 st1 ms := by
  obtain ⟨f, l, h1, h2⟩ := a.h
  refine ⟨a.E.trans S0 E, S, a.n, ⟨f, l, E.keep _ _ h1 a.b, h2⟩, ?_, fun q => ?_⟩
  · rcases E.exk Dd a.x with z | z
    · exact z
    · exact absurd z a.b
  · obtain ⟨i, hi⟩ := List.mem_iff_getElem?.mp q
    rcases E.new i Dd hi with z | ⟨_, z⟩
    · exact a.b (List.mem_of_getElem? z)
    · rw [h1] at z; cases z
theorem AccS.add {K : KW} {bs : List Nat} {H0 : Hp} {ex0 : List Addr} {bt0 : Bt} {Dd : Addr} {H : Hp} {ex : List Addr} {bt : Bt} {st : Store} {ms : List Int} (a : AccS K bs H0 ex0 bt0 Dd H ex bt st ms) {f : Int → Bool} {n : Nat} (hH : H Dd = some (SetO K.w Dd f n)) (hf : ∀ k, f k = true ↔ k ∈ ms) {l : List Int} (hl : l.length = n) (nd : l.Nodup) (hm : ∀ k, k ∈ l ↔ k ∈ ms) (c : Int) :
    AccS K bs H0 ex0 bt0 Dd (upd H Dd (SetO K.w Dd (fun j => f j || decide (j = c)) (if f c = true then n else n + 1))) ex bt st (ms ++ [c]) := by
  have n1 : ∀ us, H Dd ≠ some (.tup us) := fun _ e => by rw [hH] at e; cases e
  have n2 : ∀ x y, H Dd ≠ some (.frz x y) := fun _ _ e => by rw [hH] at e; cases e
  have hf2 : ∀ k, (f k || decide (k = c)) = true ↔ k ∈ ms ++ [c] := fun k => by
    rw [Bool.or_eq_true, hf, decide_eq_true_eq, List.mem_append, List.mem_singleton]
  refine ⟨a.E.ownPutX a.n, a.S.ownPutX n1 n2 a.x a.b, a.n, ?_, a.x, a.b⟩
  by_cases hc : f c = true
  · rw [if_pos hc]
    refine ⟨_, l, by rw [hl]; exact upd_same, nd, fun k => ?_, hf2⟩
    rw [hm, List.mem_append, List.mem_singleton]
    exact ⟨.inl, fun h => h.elim id fun e => by rw [e]; exact (hf c).mp hc⟩
  · rw [if_neg hc]
    refine ⟨_, l ++ [c], by rw [List.length_append, hl]; exact upd_same, ?_, fun k => ?_, hf2⟩
    · rw [List.nodup_append]
      refine ⟨nd, by simp, fun x hx y hy e => hc ?_⟩
      rw [List.mem_singleton] at hy
      rw [hf, ← hm, ← hy, ← e]
      exact hx
    · rw [List.mem_append, List.mem_singleton, hm, List.mem_append, List.mem_singleton]
/-! what the end tells of the items -/
theorem compGo_pre {f : P → M (List P)} (hf : ∀ x s, (∃ a s', f x s = .ok a s') ∨ f x s = .bad) : ∀ (xs acc : List P) (s : Store), (∃ more s', compGo f xs acc s = .ok (acc ++ more) s') ∨ compGo f xs acc s = .bad
  | [], acc, s => .inl ⟨[], s, by rw [List.append_nil]; rfl⟩
  | x :: xs, acc, s => by
    rw [compGo_cons]
    unfold M.bnd
    rcases hf x s with ⟨a, s', e⟩ | e
    · rw [e]
      dsimp only
      split
      · rcases compGo_pre hf xs (acc ++ a) s' with ⟨more, s2, e2⟩ | e2
        · exact .inl ⟨a ++ more, s2, by rw [e2, List.append_assoc]⟩
        · exact .inr e2
      · exact .inr rfl
    · rw [e]; exact .inr rfl
theorem calm_two {β : Type} (m : M β) (s : Store) : (∃ a s', M.calm m s = .ok a s') ∨ M.calm m s = .bad := by
  unfold M.calm
  cases m s with
  | ok a s' => exact .inl ⟨a, s', rfl⟩
  | exn c v s' => exact .inr rfl
  | bad => exact .inr rfl
theorem toInts_app : ∀ {xs ys : List P} {ns : List Int}, toInts (xs ++ ys) = some ns → ∃ as bs, toInts xs = some as ∧ toInts ys = some bs ∧ ns = as ++ bs
  | [], ys, ns, h => ⟨[], ns, rfl, h, rfl⟩
  | x :: xs, ys, ns, h => by
    cases x with
    | int i =>
      rw [List.cons_append] at h
      unfold toInts at h
      obtain ⟨ms, h1, h2⟩ := Option.map_eq_some_iff.mp h
      obtain ⟨as, bs, e1, e2, e3⟩ := toInts_app h1
      exact ⟨i :: as, bs, by unfold toInts; rw [e1]; rfl, e2, by rw [← h2, e3]; rfl⟩
    | _ => rw [List.cons_append] at h; unfold toInts at h; cases h
theorem toInts_eq : ∀ {xs : List P} {ns : List Int}, toInts xs = some ns → xs = ns.map PyData.int
  | [], ns, h => by cases h; rfl
  | x :: xs, ns, h => by
    cases x with
    | int i =>
      unfold toInts at h
      obtain ⟨ms, h1, h2⟩ := Option.map_eq_some_iff.mp h
      rw [← h2, toInts_eq h1]; rfl
    | _ => unfold toInts at h; cases h
theorem map_int_inj : ∀ {as bs : List Int}, as.map PyData.int = bs.map PyData.int → as = bs
  | [], [], _ => rfl
  | a :: as, b :: bs, h => by
    rw [List.map_cons, List.map_cons, List.cons.injEq] at h
    rw [map_int_inj h.2, PyData.int.inj h.1]
  | [], _ :: _, h => by cases h
  | _ :: _, [], h => by cases h
theorem snoc_int {ms ns : List Int} {q : P} (h : ms.map PyData.int ++ [q] = ns.map PyData.int) : ∃ c, ns = ms ++ [c] ∧ q = PyData.int c := by
  have hq : q ∈ ns.map PyData.int := by rw [← h]; simp
  obtain ⟨c, _, e⟩ := List.mem_map.mp hq
  subst e
  refine ⟨c, ?_, rfl⟩
  have : (ms ++ [c]).map PyData.int = ns.map PyData.int := by rw [List.map_append]; exact h
  exact (map_int_inj this).symm
theorem nodup_le {as bs : List Int} (h : as.Nodup) (hs : ∀ k, k ∈ as → k ∈ bs) : as.length ≤ bs.length := by
  induction as generalizing bs with
  | nil => exact Nat.zero_le _
  | cons a as ih =>
    have ha := hs a List.mem_cons_self
    rw [List.nodup_cons] at h
    have := ih (bs := bs.erase a) h.2 fun k hk => by
      have h1 := hs k (List.mem_cons_of_mem _ hk)
      exact (List.mem_erase_of_ne fun e => h.1 (by rw [← e]; exact hk)).mpr h1
    have l := List.length_erase_of_mem ha
    have := List.length_pos_of_mem ha
    rw [List.length_cons]
    omega
section
variable {X : Cx} {XR : Nat → Option P → XK → Hp → Prop} {bs : List Nat} {W : WX} {e tg iter elt : Expr} {es : List Expr} {sts : List Stmt} {pos p : Pos} {ma mb : Env → M D}
theorem setc_int {K : KW} {Y : XK} {ex : List Addr} {bt : Bt} {H : Hp} {Q : VK} {f : P → M (List P)} (hf : ∀ x s, (∃ a s', f x s = .ok a s') ∨ f x s = .bad) {xs qs : List P} {st : Store}
    (C : Cont K XR bs Y (RpD K) ex bt H (((compGo f xs qs).bnd setG) st) Q) : ∃ ns : List Int, qs = ns.map PyData.int ∧ ns.length < 4000 := by
  unfold M.bnd at C
  rcases compGo_pre hf xs qs st with ⟨more, s', e⟩ | e
  · rw [e] at C
    dsimp only at C
    cases e1 : toInts (qs ++ more) with
    | none =>
      have e2 : setG (qs ++ more) s' = .bad := by unfold setG; rw [e1]; rfl
      rw [e2] at C
      exact (show False from C).elim
    | some ns =>
      by_cases hl : ns.length < 4000
      · obtain ⟨as, bs, h1, h2, h3⟩ := toInts_app e1
        exact ⟨as, toInts_eq h1, by rw [h3, List.length_append] at hl; omega⟩
      · have e2 : setG (qs ++ more) s' = .bad := by unfold setG; rw [e1]; dsimp only; rw [if_neg hl]; rfl
        rw [e2] at C
        exact (show False from C).elim
  · rw [e] at C
    exact (show False from C).elim
theorem setG_nil {K : KW} {Y : XK} {ex : List Addr} {bt : Bt} {H : Hp} {Q : VK} {ns : List Int} {st : Store} (hl : ns.length < 4000) (C : Cont K XR bs Y (RpD K) ex bt H (((compGo (fun _ => M.bad) [] (ns.map PyData.int)).bnd setG) st) Q) : Cont K XR bs Y (RpD K) ex bt H (M.ret (.iset (onceI ns)) st) Q := by
  have e : ((compGo (fun _ => M.bad) [] (ns.map PyData.int)).bnd setG) st = M.ret (.iset (onceI ns)) st := by
    show setG (ns.map PyData.int) st = _
    have e1 : toInts (ns.map PyData.int) = some ns := by
      clear C hl
      induction ns with
      | nil => rfl
      | cons n ns ih => rw [List.map_cons]; unfold toInts; rw [ih]; rfl
    unfold setG
    rw [e1]
    dsimp only
    rw [if_pos hl]
  rw [e] at C
  exact C
theorem setc_rd {vs ws : List Nat} {mi : Env → M (List P)} {mg : Env → D → M Env} {mt : Env → M Bool} {me : Env → M D} (hv : ∀ i, i ∈ vs → i ∈ ws) {σ : L2.St} {H : Hp} {Q : VK}
    (h : rE X XR bs W (fun σ => (mi σ).bnd fun xs => (compGo (turnM ws mg mt (oneM me) σ) xs []).bnd setG) σ H Q) : tScI X.w (rI X XR bs W mi) (rGw X bs vs mg) (rT X noX bs noW mt) (rE X noX bs noW me) vs σ H Q := by
  obtain ⟨ex, bt, st, env, S, V, C⟩ := h
  refine ⟨ex, bt, st, env, S, V, (Cont.bnd S C).mono fun J H1 ⟨ps, ex1, bt1, st1, E1, S1, J1, C1⟩ => fun Dd hD => ?_⟩
  have V1 := V.ext S E1
  let f := turnM ws mg mt (oneM me) env
  have hf : ∀ x s, (∃ a s', f x s = .ok a s') ∨ f x s = .bad := fun x s => calm_two _ s
  refine ⟨fun i m H' => m = ps.length - i ∧ i ≤ ps.length ∧ ∃ ex' bt' st' ms, AccS (kw X) bs H1 ex1 bt1 Dd H' ex' bt' st' ms ∧ Cont (kw X) XR bs (fun c d H => W c d σ H) (RpD (kw X)) ex1 bt1 H1 (((compGo f (ps.drop i) (ms.map PyData.int)).bnd setG) st') Q,
    ⟨ps.length, rfl, Nat.zero_le _, Dd :: ex1, bt1, st1, [], ⟨Ext.own hD, S1.ownX hD, hD, ⟨fun _ => false, [], upd_same, List.nodup_nil, fun _ => Iff.rfl, fun k => by simp⟩, List.mem_cons_self, S1.notBt hD⟩, C1⟩, ?_⟩
  rintro i m H2 ⟨rfl, hle, ex2, bt2, st2, ms, a, C2⟩
  obtain ⟨j1, j2⟩ := J1 bs ex2 bt2 st2 H2 a.S (Ext.rch S1 a.E) i
  by_cases hlt : i < ps.length
  · obtain ⟨go, yl⟩ := j2 _ (List.getElem?_eq_getElem hlt)
    refine .inr ⟨go, _, fun H' (h : ∃ ex' bt' st' ms, AccS (kw X) bs H1 ex1 bt1 Dd H' ex' bt' st' ms ∧ Cont (kw X) XR bs (fun c d H => W c d σ H) (RpD (kw X)) ex1 bt1 H1 (((compGo f (ps.drop (i + 1)) (ms.map PyData.int)).bnd setG) st') Q) => ⟨ps.length - (i + 1), by omega, rfl, hlt, h⟩, fun x H3 y => ?_⟩
    obtain ⟨ex3, bt3, E3, S3, r3⟩ := yl x H3 y
    have a3 := a.ext S1 E3 S3
    rw [List.drop_eq_getElem_cons hlt, compGo_cons, bnd_assoc] at C2
    obtain ⟨ys, s0, ey, C2⟩ := calm_bnd C2
    have C3 : Cont (kw X) noX bs (fun _ _ _ => False) (fun H ex _ (us : List L2.V) (ys : List P) => Rps (kw X) H ex us ys) ex3 bt3 H3 (((mg (wipeE env ws) (.p ps[i])).bnd fun σ' => (mt σ').bnd fun b => if b then oneM me σ' else M.ret []) st2) fun us H' => ∃ ex' bt', Ext ex3 bt3 H3 ex' bt' H' ∧ SRel (kw X) bs ex' bt' s0 H' ∧ Rps (kw X) H' ex' us ys := by
      rw [ey]
      exact fun v H' ex' bt' E' S' r => ⟨ex', bt', E', S', r⟩
    refine ⟨ex3, bt3, st2, wipeE env ws, .p ps[i], S3, ((V1.ext S1 a3.E).wipe hv), r3, (Cont.bnd S3 C3).mono fun σ4 H4 ⟨env4, ex4, bt4, st4, E4, S4, V4, C4⟩ hw4 => ⟨?_, ?_⟩⟩
    · rw [wipe_wipe] at hw4; exact hw4
    · have a4 := a3.ext S1 E4 S4
      refine ⟨ex4, bt4, st4, env4, a4.S, V4, (Cont.tst a4.S C4).mono fun k H5 ⟨ex5, bt5, st5, E5, S5, C5⟩ => ?_⟩
      cases k with
      | false =>
        rw [if_neg Bool.false_ne_true]
        obtain ⟨ex6, bt6, E6, S6, r6⟩ := C5 [] H5 ex5 bt5 .refl S5 .nil
        cases r6
        split at C2
        · rw [List.append_nil] at C2
          exact ⟨ex6, bt6, s0, ms, a3.ext S1 E6 S6, C2⟩
        · exact (show False from C2).elim
      | true =>
        rw [if_pos rfl]
        refine ⟨ex5, bt5, st5, env4, S5, V4.ext a4.S E5, (Cont.bnd S5 C5).mono fun y H6 ⟨d, ex6, bt6, st6, E6, S6, R6, C6⟩ => ?_⟩
        obtain ⟨q, ex7, bt7, st7, E7, S7, r7, C7⟩ := Cont.take S6 R6 C6
        obtain ⟨ex8, bt8, E8, S8, r8⟩ := C7 [y] H6 ex7 bt7 .refl S7 (.cons r7 .nil)
        have a8 := a3.ext S1 E8 S8
        cases r8 with
        | cons r8 t =>
          cases t
          split at C2
          · obtain ⟨ns, e1, e2⟩ := setc_int hf C2
            obtain ⟨c, e3, e4⟩ : ∃ c, ns = ms ++ [c] ∧ _ = PyData.int c := snoc_int e1
            subst e4
            have ev : y = .int c := by cases r8; rfl
            obtain ⟨g, l, h1, h2, h3, h4⟩ := a8.h
            rw [e3, List.length_append, List.length_singleton] at e2
            have hl : l.length ≤ ms.length := nodup_le h2 fun k hk => (h3 k).mp hk
            refine ⟨c, g, l.length, ev, h1, by show l.length + 1 < 4096; omega, ex8, bt8, s0, ms ++ [c], a8.add h1 h4 rfl h2 h3 c, ?_⟩
            rw [List.map_append]
            exact C2
          · exact (show False from C2).elim
  · have e : i = ps.length := by omega
    subst e
    rw [List.drop_length] at C2
    obtain ⟨ns, e1, e2⟩ := setc_int hf C2
    have e3 : ns = ms := (map_int_inj e1).symm
    subst e3
    have C3 := setG_nil e2 C2
    obtain ⟨g, l, h1, h2, h3, h4⟩ := a.h
    have hpe : Dd ∉ ex1 := fun q => by
      obtain ⟨o, ho⟩ := S1.exH Dd q
      rw [hD] at ho; cases ho
    have ll : l.length = (onceI ns).length := ((List.perm_ext_iff_of_nodup h2 (once_nodup ns)).mpr fun k => (h3 k).trans (once_mem ns k).symm).length_eq
    rw [ll] at h1
    refine .inl ⟨j1 rfl, C3 _ H2 (out ex2 Dd) bt2 (a.E.letOut hpe) (a.S.letOut a.b) ⟨Dd, g, rfl, fun q => (of_decide_eq_true (List.mem_filter.mp q).2) rfl, h1, fun k => (h4 k).trans (once_mem ns k).symm, once_nodup ns⟩⟩
theorem sndE_setc {ifs : List Expr} {scope : Scope} {own : List (Str × Nat)} {ws : List Nat} {mi : Env → M (List P)} {mg : Env → D → M Env} {mt : Env → M Bool} {me : Env → M D} (hc : X.calm = true) (hN : X.N.Nodup) (hi : PI X tg iter (rI X XR bs W mi)) (ok : BlkOk X.N X.env.scope scope own) (hv : ∀ i, i ∈ own.map (·.2) → i ∈ ws)
    (hg : ∀ (s : Shared) (H : Hp) (C : Addr) (cl : List (Str × Addr)) (fp : List Addr), PG (blkX X scope s H C cl fp) tg (rGw X bs (own.map (·.2)) mg)) (ht : ∀ (s : Shared) (H : Hp) (C : Addr) (cl : List (Str × Addr)) (fp : List Addr), PTs (blkX X scope s H C cl fp) ifs (rT X noX bs noW mt))
    (he : ∀ (s : Shared) (H : Hp) (C : Addr) (cl : List (Str × Addr)) (fp : List Addr), PE (blkX X scope s H C cl fp) elt (rE X noX bs noW me)) (hs : ∀ x, foldedSetIterable iter X.env x = pure x) :
    PE X (.SetComp elt [⟨tg, iter, ifs, 0⟩] scope pos) (rE X XR bs W fun σ => (mi σ).bnd fun xs => (compGo (turnM ws mg mt (oneM me) σ) xs []).bnd setG) :=
  (pe_scI hc hN hi ok hg ht he hs).imp fun σ H Q h => setc_rd hv h
end
end Ev

end
section
/-! Ev 44: comprehensions with two fors. -/
namespace Ev
open PySem PySem.Spec PyProof.Rows L2
section
variable {K : KW} {bs : List Nat} {ex ex1 : List Addr} {bt bt1 : Bt} {st : Store} {H H1 : Hp} {p : Addr}
theorem Rch.put {us ws : List V} (hp : H p = some (.lst us)) (hx : p ∈ ex) : Rch K H ex (upd H p (.lst ws)) ex := by
  have nt : ∀ vs, H p ≠ some (.tup vs) := fun _ e => by rw [hp] at e; cases e
  have nf : ∀ x y, H p ≠ some (.frz x y) := fun _ _ e => by rw [hp] at e; cases e
  refine ⟨fun _ _ r => Rp.put hx nt nf r, fun a vs e n => ?_, fun a vs h => ?_, fun a ns h => ?_⟩
  · rw [upd_ne (fun z : a = p => n (by rw [z]; exact hx))]; exact e
  · rcases h with (h | ⟨q, h⟩) | h
    · exact .inl (.inl (by rw [upd_ne (fun e : a = p => nt _ (by rw [← e]; exact h))]; exact h))
    · exact .inl (.inr ⟨q, by rw [upd_ne (fun e : a = p => nf _ _ (by rw [← e]; exact h))]; exact h⟩)
    · exact .inr h
  · rcases h with ⟨q, h⟩ | h
    · exact .inl ⟨q, by rw [upd_ne (fun z : a = p => nf _ _ (by rw [← z]; exact h))]; exact h⟩
    · exact .inr h
theorem Rch.refl : Rch K H ex H ex := ⟨fun _ _ h => h, fun _ _ h _ => h, fun _ _ h => h, fun _ _ h => h⟩
end
section
variable {X : Cx} {XR : Nat → Option P → XK → Hp → Prop} {bs : List Nat} {W : WX} {e tg iter tg1 iter1 elt : Expr} {es : List Expr} {sts : List Stmt} {pos p : Pos} {ma mb : Env → M D}
/-- what is told of an evaluation that went well -/
theorem told {α ν : Type} {K : KW} {R : Hp → List Addr → Bt → ν → α → Prop} {ex : List Addr} {bt : Bt} {H : Hp} {r : Res α} {a : α} {s : Store} (e : r = .ok a s) :
    Cont K noX bs (fun _ _ _ => False) R ex bt H r fun v H' => ∃ ex' bt', Ext ex bt H ex' bt' H' ∧ SRel K bs ex' bt' s H' ∧ R H' ex' bt' v a := by
  rw [e]
  exact fun v H' ex' bt' E' S' q => ⟨ex', bt', E', S', q⟩
theorem bnd_parts {α β : Type} {m : M α} {f : α → M β} {s s' : Store} {b : β} (h : (m.bnd f) s = .ok b s') : ∃ a s1, m s = .ok a s1 ∧ f a s1 = .ok b s' := by
  unfold M.bnd at h
  cases e : m s with
  | ok a s1 => rw [e] at h; exact ⟨a, s1, rfl, h⟩
  | exn c v s1 => rw [e] at h; cases h
  | bad => rw [e] at h; cases h
theorem calm_parts {α : Type} {m : M α} {s s' : Store} {a : α} (h : M.calm m s = .ok a s') : m s = .ok a s' := by
  unfold M.calm at h
  cases e : m s with
  | ok a s1 => rw [e] at h; exact h
  | exn c v s1 => rw [e] at h; cases h
  | bad => rw [e] at h; cases h
abbrev innM (ws1 : List Nat) (mi1 : Env → M (List P)) (mg1 : Env → D → M Env) (mt1 : Env → M Bool) (me : Env → M D) (σ : Env) : M (List P) := (mi1 σ).bnd fun zs => compGo (turnM ws1 mg1 mt1 (oneM me) σ) zs []
theorem comp2_rd {vs vs1 ws ws1 : List Nat} {mi mi1 : Env → M (List P)} {mg mg1 : Env → D → M Env} {mt mt1 : Env → M Bool} {me : Env → M D} (hv : ∀ i, i ∈ vs → i ∈ ws) (hv1 : ∀ i, i ∈ vs1 → i ∈ ws1) {σ : L2.St} {H : Hp} {Q : VK}
    (h : rC X XR bs W (fun σ => (mi σ).bnd fun xs => compGo (turnM ws mg mt (innM ws1 mi1 mg1 mt1 me) σ) xs []) σ H Q) : tLc2 (rI X XR bs W mi) (rGw X bs vs mg) (rT X noX bs noW mt) (rI X noX bs noW mi1) (rGw X bs vs1 mg1) (rT X noX bs noW mt1) (rE X noX bs noW me) vs vs1 σ H Q := by
  obtain ⟨ex, bt, st, env, S, V, C⟩ := h
  refine ⟨ex, bt, st, env, S, V, (Cont.bnd S C).mono fun J H1 ⟨ps, ex1, bt1, st1, E1, S1, J1, C1⟩ => fun Dd hD => ?_⟩
  have V1 := V.ext S E1
  let f := turnM ws mg mt (innM ws1 mi1 mg1 mt1 me) env
  refine ⟨fun i m H' => m = ps.length - i ∧ i ≤ ps.length ∧ ∃ ex' bt' st' acc qs, Acc (kw X) bs H1 ex1 bt1 Dd H' ex' bt' st' acc qs ∧ acc.length = qs.length ∧ Cont (kw X) XR bs (fun c d H => W c d σ H) (RC (kw X) H) ex1 bt1 H1 (compGo f (ps.drop i) qs st') Q,
    ⟨ps.length, rfl, Nat.zero_le _, Dd :: ex1, bt1, st1, [], [], ⟨Ext.own hD, S1.own hD, hD, upd_same, List.mem_cons_self, S1.notBt hD, .nil⟩, rfl, C1⟩, ?_⟩
  rintro i m H2 ⟨rfl, hle, ex2, bt2, st2, acc, qs, a, hl, C2⟩
  obtain ⟨j1, j2⟩ := J1 bs ex2 bt2 st2 H2 a.S (Ext.rch S1 a.E) i
  by_cases hlt : i < ps.length
  · obtain ⟨go, yl⟩ := j2 _ (List.getElem?_eq_getElem hlt)
    refine .inr ⟨go, _, fun H' (h : ∃ ex' bt' st' acc qs, Acc (kw X) bs H1 ex1 bt1 Dd H' ex' bt' st' acc qs ∧ acc.length = qs.length ∧ Cont (kw X) XR bs (fun c d H => W c d σ H) (RC (kw X) H) ex1 bt1 H1 (compGo f (ps.drop (i + 1)) qs st') Q) => ⟨ps.length - (i + 1), by omega, rfl, hlt, h⟩, fun x H3 y => ?_⟩
    obtain ⟨ex3, bt3, E3, S3, r3⟩ := yl x H3 y
    have a3 := a.ext S1 E3 S3
    rw [List.drop_eq_getElem_cons hlt, compGo_cons] at C2
    obtain ⟨ys, s0, ey, C2⟩ := calm_bnd C2
    obtain ⟨σ', sA, e1, ey⟩ := bnd_parts ey
    obtain ⟨k, sB, e2, ey⟩ := bnd_parts ey
    split at C2
    rotate_left
    · exact (show False from C2).elim
    rename_i hz
    have hz := of_decide_eq_true hz
    refine ⟨ex3, bt3, st2, wipeE env ws, .p ps[i], S3, ((V1.ext S1 a3.E).wipe hv), r3, (told (R := EnvOk (kw X)) e1).mono fun σ4 H4 ⟨ex4, bt4, E4, S4, V4⟩ hw4 => ⟨?_, ?_⟩⟩
    · rw [wipe_wipe] at hw4; exact hw4
    · have a4 := a3.ext S1 E4 S4
      refine ⟨ex4, bt4, sA, σ', a4.S, V4, (told (R := fun _ _ _ (v : Bool) b => v = b) e2).mono fun kb H5 ⟨ex5, bt5, E5, S5, ek⟩ => ?_⟩
      subst ek
      have a5 := a4.ext S1 E5 S5
      cases kb with
      | false =>
        rw [if_neg Bool.false_ne_true]
        rw [if_neg Bool.false_ne_true] at ey
        cases ey
        rw [List.append_nil] at C2
        exact ⟨ex5, bt5, s0, acc, qs, a5, hl, C2⟩
      | true =>
        rw [if_pos rfl]
        rw [if_pos rfl] at ey
        obtain ⟨zs, sC, e3, e4⟩ := bnd_parts ey
        have V5 := V4.ext a4.S E5
        refine ⟨ex5, bt5, sB, σ', S5, V5, (told (R := ItOk (kw X)) e3).mono fun Jt H6 ⟨ex6, bt6, E6, S6, J6⟩ => ?_⟩
        have a6 := a5.ext S1 E6 S6
        have V6 := V5.ext a5.S E6
        refine ⟨fun j m H' => m = zs.length - j ∧ j ≤ zs.length ∧ ∃ ex' bt' st' us xs, Acc (kw X) bs H1 ex1 bt1 Dd H' ex' bt' st' (acc ++ us) (qs ++ xs) ∧ us.length = xs.length ∧ Rch (kw X) H6 ex6 H' ex' ∧ (∀ a vs, H6 a = some (.lst vs) → a ∉ ex6 → a ∉ ex') ∧ EnvR (kw X) H' ex' bt' σ' σ4 ∧ compGo (turnM ws1 mg1 mt1 (oneM me) σ') (zs.drop j) xs st' = .ok ys s0,
          ⟨zs.length, rfl, Nat.zero_le _, ex6, bt6, sC, [], [], by rw [List.append_nil, List.append_nil]; exact a6, rfl, Rch.refl, fun _ _ _ n => n, V6, e4⟩, ?_⟩
        rintro j m H7 ⟨rfl, hlj, ex7, bt7, st7, us, xs, a7, hlu, R7, N7, V7, e7⟩
        obtain ⟨i1, i2⟩ := J6 bs ex7 bt7 st7 H7 a7.S R7 j
        by_cases hlz : j < zs.length
        · obtain ⟨go2, yl2⟩ := i2 _ (List.getElem?_eq_getElem hlz)
          refine .inr ⟨go2, _, fun H' (h : ∃ ex' bt' st' us xs, Acc (kw X) bs H1 ex1 bt1 Dd H' ex' bt' st' (acc ++ us) (qs ++ xs) ∧ us.length = xs.length ∧ Rch (kw X) H6 ex6 H' ex' ∧ (∀ a vs, H6 a = some (.lst vs) → a ∉ ex6 → a ∉ ex') ∧ EnvR (kw X) H' ex' bt' σ' σ4 ∧ compGo (turnM ws1 mg1 mt1 (oneM me) σ') (zs.drop (j + 1)) xs st' = .ok ys s0) => ⟨zs.length - (j + 1), by omega, rfl, hlz, h⟩, fun x2 H8 y2 => ?_⟩
          obtain ⟨ex8, bt8, E8, S8, r8⟩ := yl2 x2 H8 y2
          have a8 := a7.ext S1 E8 S8
          have V8 := V7.ext a7.S E8
          have step : ∀ {H9 : Hp} {ex9 : List Addr} {bt9 : Bt} {st9 : Store}, Ext ex7 bt7 H7 ex9 bt9 H9 → Rch (kw X) H6 ex6 H9 ex9 ∧ ∀ a vs, H6 a = some (.lst vs) → a ∉ ex6 → a ∉ ex9 := fun {H9 ex9 bt9 st9} E9 => by
            have nn : ∀ a vs, H7 a = some (.lst vs) → a ∉ ex7 → a ∉ ex9 := fun a vs e n q => by
              rcases E9.exs a q with z | z
              · exact n z
              · rw [e] at z; cases z
            exact ⟨R7.trans (fun a vs e _ n => N7 a vs (by assumption) n) (Ext.rch a7.S E9), fun a vs e n => nn a vs (R7.lst a vs e n) (N7 a vs e n)⟩
          rw [List.drop_eq_getElem_cons hlz, compGo_cons] at e7
          obtain ⟨ws2, sD, e8, e9⟩ := bnd_parts e7
          replace e8 := calm_parts e8
          obtain ⟨σ'', sE, f1, e8⟩ := bnd_parts e8
          obtain ⟨k2, sF, f2, e8⟩ := bnd_parts e8
          have e9' : decide (xs.length + ws2.length < line) = true ∧ compGo (turnM ws1 mg1 mt1 (oneM me) σ') (zs.drop (j + 1)) (xs ++ ws2) sD = .ok ys s0 := by
            by_cases hq : decide (xs.length + ws2.length < line) = true
            · rw [if_pos hq] at e9; exact ⟨hq, e9⟩
            · rw [if_neg hq] at e9; cases e9
          obtain ⟨g1, e9⟩ := e9'
          refine ⟨ex8, bt8, st7, wipeE σ' ws1, .p zs[j], S8, V8.wipe hv1, r8, (told (R := EnvOk (kw X)) f1).mono fun σ9 H9 ⟨ex9, bt9, E9, S9, V9⟩ hw9 => ⟨?_, ?_⟩⟩
          · rw [wipe_wipe] at hw9; exact hw9
          · have a9 := a8.ext S1 E9 S9
            refine ⟨ex9, bt9, sE, σ'', a9.S, V9, (told (R := fun _ _ _ (v : Bool) b => v = b) f2).mono fun kc HA ⟨exA, btA, EA, SA, ek⟩ => ?_⟩
            subst ek
            have aA := a9.ext S1 EA SA
            have E7A : Ext ex7 bt7 H7 exA btA HA := (E8.trans a7.S E9).trans a7.S EA
            cases kc with
            | false =>
              rw [if_neg Bool.false_ne_true]
              rw [if_neg Bool.false_ne_true] at e8
              cases e8
              rw [List.append_nil] at e9
              obtain ⟨s1, s2⟩ := step (st9 := sD) E7A
              exact ⟨exA, btA, _, us, xs, aA, hlu, s1, s2, V7.ext a7.S E7A, e9⟩
            | true =>
              rw [if_pos rfl]
              rw [if_pos rfl] at e8
              obtain ⟨d, sG, f3, e8⟩ := bnd_parts e8
              obtain ⟨q, sH, f4, e8⟩ := bnd_parts e8
              cases e8
              refine ⟨exA, btA, sF, σ'', aA.S, V9.ext a9.S EA, (told (R := RpD (kw X)) f3).mono fun yv HB ⟨exB, btB, EB, SB, RB⟩ => ?_⟩
              have C5 : Cont (kw X) noX bs (fun _ _ _ => False) (fun H ex _ (u : L2.V) (y : P) => Rp (kw X) H ex u y) exB btB HB (((take d).bnd fun q => M.ret q) sG) fun u H' => ∃ ex' bt', Ext exB btB HB ex' bt' H' ∧ SRel (kw X) bs ex' bt' sD H' ∧ Rp (kw X) H' ex' u q := by
                have e5 : ((take d).bnd fun q => M.ret q) sG = .ok q sD := by unfold M.bnd; rw [f4]; rfl
                exact told e5
              obtain ⟨q', ex5', bt5', st5', E5', S5', r5', C6⟩ := Cont.take SB RB C5
              obtain ⟨exC, btC, EC, SC, rC⟩ := C6 yv HB ex5' bt5' .refl S5' r5'
              have aC := (aA.ext S1 EB SB).ext S1 EC SC
              have E7C : Ext ex7 bt7 H7 exC btC HB := (E7A.trans a7.S EB).trans a7.S EC
              obtain ⟨s1, s2⟩ := step (st9 := sD) E7C
              have hlen : (acc ++ us).length < sizeLine := by
                have g2 := of_decide_eq_true g1
                have pre : xs.length + 1 ≤ ys.length := by
                  obtain ⟨more, s9, e10⟩ := (compGo_pre (fun x s => calm_two _ s) (zs.drop (j + 1)) (xs ++ [q]) sD).resolve_right (by rw [e9]; exact fun z => by cases z)
                  rw [e9] at e10
                  cases e10
                  simp only [List.length_append, List.length_singleton]
                  omega
                rw [line_eq, List.length_append, hl, hlu]
                omega
              refine ⟨acc ++ us, aC.h, hlen, exC, btC, _, us ++ [yv], xs ++ [q], ?_, by rw [List.length_append, List.length_append, hlu]; rfl, s1.trans (fun a vs _ e n => s2 a vs e n) (Rch.put aC.h aC.x), s2, ?_, e9⟩
              · rw [← List.append_assoc, ← List.append_assoc]
                exact aC.app rC
              · have V7C := V7.ext a7.S E7C
                exact ⟨V7C.len, fun i d e => let ⟨v, h1, h2⟩ := V7C.get i d e; ⟨v, h1, RpD.put aC.h aC.x h2⟩⟩
        · have e : j = zs.length := by omega
          subst e
          rw [List.drop_length] at e7
          cases e7
          exact .inl ⟨i1 rfl, ex7, bt7, _, acc ++ us, qs ++ ys, a7, by rw [List.length_append, List.length_append, hl, hlu], C2⟩
  · have e : i = ps.length := by omega
    subst e
    rw [List.drop_length] at C2
    refine .inl ⟨j1 rfl, C2 _ H2 ex2 bt2 a.E a.S ⟨Dd, acc, rfl, E1.back hD, a.h, a.x, a.b, a.r⟩⟩
theorem sndC_comp2 {ifs ifs1 : List Expr} {scope : Scope} {own : List (Str × Nat)} {ws ws1 vs1 : List Nat} {mi mi1 : Env → M (List P)} {mg mg1 : Env → D → M Env} {mt mt1 : Env → M Bool} {me : Env → M D} (hc : X.calm = true) (hN : X.N.Nodup) (hi : PI X tg iter (rI X XR bs W mi)) (ok : BlkOk X.N X.env.scope scope own) (hv : ∀ i, i ∈ own.map (·.2) → i ∈ ws) (hv0 : ∀ i ∈ vs1, i ∈ own.map (·.2)) (hv1 : ∀ i, i ∈ vs1 → i ∈ ws1)
    (hg : ∀ (s : Shared) (H : Hp) (C : Addr) (cl : List (Str × Addr)) (fp : List Addr), PG (blkX X scope s H C cl fp) tg (rGw X bs (own.map (·.2)) mg)) (ht : ∀ (s : Shared) (H : Hp) (C : Addr) (cl : List (Str × Addr)) (fp : List Addr), PTs (blkX X scope s H C cl fp) ifs (rT X noX bs noW mt))
    (hi1 : ∀ (s : Shared) (H : Hp) (C : Addr) (cl : List (Str × Addr)) (fp : List Addr), PI (blkX X scope s H C cl fp) tg1 iter1 (rI X noX bs noW mi1))
    (hg1 : ∀ (s : Shared) (H : Hp) (C : Addr) (cl : List (Str × Addr)) (fp : List Addr), PG (blkX X scope s H C cl fp) tg1 (rGw X bs vs1 mg1)) (ht1 : ∀ (s : Shared) (H : Hp) (C : Addr) (cl : List (Str × Addr)) (fp : List Addr), PTs (blkX X scope s H C cl fp) ifs1 (rT X noX bs noW mt1))
    (he : ∀ (s : Shared) (H : Hp) (C : Addr) (cl : List (Str × Addr)) (fp : List Addr), PE (blkX X scope s H C cl fp) elt (rE X noX bs noW me)) (hs : ∀ x, foldedSetIterable iter X.env x = pure x) (hs1 : ∀ env x, foldedSetIterable iter1 env x = pure x) :
    PE X (.ListComp elt [⟨tg, iter, ifs, 0⟩, ⟨tg1, iter1, ifs1, 0⟩] scope pos) (rC X XR bs W fun σ => (mi σ).bnd fun xs => compGo (turnM ws mg mt (innM ws1 mi1 mg1 mt1 me) σ) xs []) :=
  (pe_lc2 hc hN hi ok hv0 hg ht hi1 hg1 ht1 he hs hs1).imp fun σ H Q h => comp2_rd hv hv1 h
/-- name = [.. two fors ..], stored from within -/
theorem sndS_setC2 {i : Nat} {y : Str} {py spos : Pos} {mr : Env → Store → SR} {ifs ifs1 : List Expr} {scope : Scope} {own : List (Str × Nat)} {ws ws1 vs1 : List Nat} {mi mi1 : Env → M (List P)} {mg mg1 : Env → D → M Env} {mt mt1 : Env → M Bool} {me : Env → M D} (hc : X.calm = true) (hN : X.N.Nodup) (hy : X.N[i]? = some y) (hyl : X.env.scope.names.lookup y = some .local) (hsw : swapsWith (.ListComp elt [⟨tg, iter, ifs, 0⟩, ⟨tg1, iter1, ifs1, 0⟩] scope pos) (some (.Name y py)) spos.line X.env = pure true) (hi : PI X tg iter (rI X XR bs W mi)) (ok : BlkOk X.N X.env.scope scope own) (hv : ∀ i, i ∈ own.map (·.2) → i ∈ ws) (hv0 : ∀ i ∈ vs1, i ∈ own.map (·.2)) (hv1 : ∀ i, i ∈ vs1 → i ∈ ws1)
    (hg : ∀ (s : Shared) (H : Hp) (C : Addr) (cl : List (Str × Addr)) (fp : List Addr), PG (blkX X scope s H C cl fp) tg (rGw X bs (own.map (·.2)) mg)) (ht : ∀ (s : Shared) (H : Hp) (C : Addr) (cl : List (Str × Addr)) (fp : List Addr), PTs (blkX X scope s H C cl fp) ifs (rT X noX bs noW mt))
    (hi1 : ∀ (s : Shared) (H : Hp) (C : Addr) (cl : List (Str × Addr)) (fp : List Addr), PI (blkX X scope s H C cl fp) tg1 iter1 (rI X noX bs noW mi1))
    (hg1 : ∀ (s : Shared) (H : Hp) (C : Addr) (cl : List (Str × Addr)) (fp : List Addr), PG (blkX X scope s H C cl fp) tg1 (rGw X bs vs1 mg1)) (ht1 : ∀ (s : Shared) (H : Hp) (C : Addr) (cl : List (Str × Addr)) (fp : List Addr), PTs (blkX X scope s H C cl fp) ifs1 (rT X noX bs noW mt1))
    (he : ∀ (s : Shared) (H : Hp) (C : Addr) (cl : List (Str × Addr)) (fp : List Addr), PE (blkX X scope s H C cl fp) elt (rE X noX bs noW me)) (hs : ∀ x, foldedSetIterable iter X.env x = pure x) (hs1 : ∀ env x, foldedSetIterable iter1 env x = pure x)
    (hr : ∀ D σ H, rS X XR bs W mr D σ H → rC X XR bs W (fun σ => (mi σ).bnd fun xs => compGo (turnM ws mg mt (innM ws1 mi1 mg1 mt1 me) σ) xs []) σ H fun v H' => D.nx (σ.set i (some v)) H') :
    PS X (.Assign [.Name y py] (.ListComp elt [⟨tg, iter, ifs, 0⟩, ⟨tg1, iter1, ifs1, 0⟩] scope pos) spos) (rS X XR bs W mr) :=
  (ps_setLc2 hc hN hy hyl hsw hi ok hv0 hg ht hi1 hg1 ht1 he hs hs1).imp fun D σ H h => comp2_rd hv hv1 (hr D σ H h)
end
end Ev

end
section
set_option maxHeartbeats 16000000
/-! Ev 29: every expression. -/
namespace Ev
open PySem PySem.Spec PyProof.Rows L2
section
variable {c : Cf} {N : List Str} {XR XR' : Nat → Option P → XK → Hp → Prop} {k : Nat} {cf : CF} {n : Nat} {X : Cx} {q : Pl} {W : WX} {bs : List Nat} {b0 : Nat}
theorem sn_co2 (all : ∀ m, m ≤ n → Sn c N XR k cf m) (C : Ctx c N XR XR' k cf X q W) {x : Expr} {a : E} {tg : Expr} {t : Tg} {iter : Expr} {it : I} {ifs : List Expr} {kk : Eo} {tg1 : Expr} {t' : Tg} {iter1 : Expr} {it' : I} {ifs1 : List Expr} {kk' : Eo} {scope : Scope} {pos : Pos}
    (h : okCo2 c N n q x a tg t iter it ifs kk tg1 t' iter1 it' ifs1 kk' scope = true) (hb : ∀ b, b ∈ bs → b ≤ b0) :
    PE X (.ListComp x [⟨tg, iter, ifs, 0⟩, ⟨tg1, iter1, ifs1, 0⟩] scope pos) (rC X XR' bs W fun σ => (evI cf b0 it σ).bnd fun xs => compGo (turnM (slotsT t ++ slotsT t') (evTg cf b0 t) (evC cf b0 kk) (innM (slotsT t') (evI cf b0 it') (evTg cf b0 t') (evC cf b0 kk') (evE cf b0 a)) σ) xs []) := by
  cases n with
  | zero => simp [okCo2] at h
  | succ n =>
    have ih := all n (Nat.le_succ n)
    unfold okCo2 at h
    simp only [Bool.and_eq_true, Bool.not_eq_true'] at h
    obtain ⟨⟨⟨⟨⟨⟨⟨⟨⟨h1, h2⟩, h2'⟩, h3⟩, h4⟩, h5⟩, h6⟩, h7⟩, h8⟩, h9⟩ := h
    refine sndC_comp2 (own := ownOf N (slotsT t ++ slotsT t')) (vs1 := (ownOf N (slotsT t')).map (·.2)) C.calm C.nd' (ih.i C h3 hb) ?_ (fun i => own_sub) (fun i hi => ?_) (fun i => own_sub) (fun s H A cl fp => ih.g (C.blk scope s H A cl fp) h4 hb) (fun s H A cl fp => ?_) (fun s H A cl fp => ih.i (C.blk scope s H A cl fp) h5 hb) (fun s H A cl fp => ih.g (C.blk scope s H A cl fp) h6 hb) (fun s H A cl fp => ?_) (fun s H A cl fp => (ih.e (C.blk scope s H A cl fp) h7 hb).1) (noset_fold h2 _) fun env => noset_fold h2' env
    · rw [C.hN, C.sc]
      exact blkOk_by h1
    · unfold ownOf at hi ⊢
      rw [List.filterMap_append, List.map_append]
      exact List.mem_append_right _ hi
    · split at h8
      · exact pts_yes
      · exact pts_one (ih.e (C.blk scope s H A cl fp) h8 hb).2.1
      · cases h8
    · split at h9
      · exact pts_yes
      · exact pts_one (ih.e (C.blk scope s H A cl fp) h9 hb).2.1
      · cases h9
theorem sn_set2 (all : ∀ m, m ≤ n → Sn c N XR k cf m) (C : Ctx c N XR XR' k cf X q W) {i : Nat} {y : Str} {py spos : Pos} {mr : Env → Store → SR} (hy : N[i]? = some y) (hyl : locB q.sc y = true) {x : Expr} {a : E} {tg : Expr} {t : Tg} {iter : Expr} {it : I} {ifs : List Expr} {kk : Eo} {tg1 : Expr} {t' : Tg} {iter1 : Expr} {it' : I} {ifs1 : List Expr} {kk' : Eo} {scope : Scope} {pos : Pos} (hsw : swapsWith (.ListComp x [⟨tg, iter, ifs, 0⟩, ⟨tg1, iter1, ifs1, 0⟩] scope pos) (some (.Name y py)) spos.line X.env = pure true)
    (h : okCo2 c N n q x a tg t iter it ifs kk tg1 t' iter1 it' ifs1 kk' scope = true) (hb : ∀ b, b ∈ bs → b ≤ b0)
    (hr : ∀ D σ H, rS X XR' bs W mr D σ H → rC X XR' bs W (fun σ => (evI cf b0 it σ).bnd fun xs => compGo (turnM (slotsT t ++ slotsT t') (evTg cf b0 t) (evC cf b0 kk) (innM (slotsT t') (evI cf b0 it') (evTg cf b0 t') (evC cf b0 kk') (evE cf b0 a)) σ) xs []) σ H fun v H' => D.nx (σ.set i (some v)) H') :
    PS X (.Assign [.Name y py] (.ListComp x [⟨tg, iter, ifs, 0⟩, ⟨tg1, iter1, ifs1, 0⟩] scope pos) spos) (rS X XR' bs W mr) := by
  cases n with
  | zero => simp [okCo2] at h
  | succ n =>
    have ih := all n (Nat.le_succ n)
    unfold okCo2 at h
    simp only [Bool.and_eq_true, Bool.not_eq_true'] at h
    obtain ⟨⟨⟨⟨⟨⟨⟨⟨⟨h1, h2⟩, h2'⟩, h3⟩, h4⟩, h5⟩, h6⟩, h7⟩, h8⟩, h9⟩ := h
    refine sndS_setC2 (own := ownOf N (slotsT t ++ slotsT t')) (vs1 := (ownOf N (slotsT t')).map (·.2)) C.calm C.nd' (C.ix hy) (by rw [C.sc]; exact locB_ok hyl) hsw (ih.i C h3 hb) ?_ (fun i => own_sub) (fun i hi => ?_) (fun i => own_sub) (fun s H A cl fp => ih.g (C.blk scope s H A cl fp) h4 hb) (fun s H A cl fp => ?_) (fun s H A cl fp => ih.i (C.blk scope s H A cl fp) h5 hb) (fun s H A cl fp => ih.g (C.blk scope s H A cl fp) h6 hb) (fun s H A cl fp => ?_) (fun s H A cl fp => (ih.e (C.blk scope s H A cl fp) h7 hb).1) (noset_fold h2 _) (fun env => noset_fold h2' env) hr
    · rw [C.hN, C.sc]
      exact blkOk_by h1
    · unfold ownOf at hi ⊢
      rw [List.filterMap_append, List.map_append]
      exact List.mem_append_right _ hi
    · split at h8
      · exact pts_yes
      · exact pts_one (ih.e (C.blk scope s H A cl fp) h8 hb).2.1
      · cases h8
    · split at h9
      · exact pts_yes
      · exact pts_one (ih.e (C.blk scope s H A cl fp) h9 hb).2.1
      · cases h9
theorem sn_e (all : ∀ m, m ≤ n → Sn c N XR k cf m) (C : Ctx c N XR XR' k cf X q W) {x : Expr} {a : E} (h : okE c N (n + 1) q x a = true) (hb : ∀ b, b ∈ bs → b ≤ b0) : GoodE X XR' bs W x (evE cf b0 a) := by
  have ih := all n (Nat.le_refl n)
  unfold okE at h
  cases a with
  | var i =>
    dsimp only at h
    split at h
    · simp only [Bool.and_eq_true, decide_eq_true_eq] at h
      exact good_of (snd_var (C.ix h.1.1) (C.vis h.1.2) (plainN_ok h.2).1 (plainN_ok h.2).2) rfl rfl
    · cases h
  | lit d =>
    dsimp only at h
    split at h
    · simp only [Bool.and_eq_true] at h
      split at h
      · rename_i d' e
        obtain ⟨v, u, h1, h2, h3⟩ := C.fa.con _ _ e
        have e2 := samP_eq h.2
        subst e2
        exact good_of (snd_lit (pe_glob (C.gl h.1.1) h1 h2 (plainN_ok h.1.2).1) h3) rfl rfl
      · simp at h
    · exact good_of (con_ok h) rfl rfl
    · split at h
      · exact good_of sndE_dict0 rfl rfl
      · cases h
    · cases h
  | neg a =>
    dsimp only at h
    split at h
    · exact good_of (snd_neg (ih.e C h hb).1) rfl rfl
    · cases h
  | not a =>
    dsimp only at h
    split at h
    · obtain ⟨g1, g2, _⟩ := ih.e C h hb (x := _)
      exact ⟨snd_not g1, PT.rw' (sndT_not g2) fun σ => not_truth _, fun e => by cases e⟩
    · cases h
  | bin o a b =>
    dsimp only at h
    split at h
    · simp only [Bool.and_eq_true] at h
      obtain ⟨⟨h1, h2⟩, h3⟩ := h
      have e := bop_eq h1
      subst e
      exact good_of (snd_bin o (ih.e C h2 hb).1 (ih.e C h3 hb).1) rfl rfl
    · cases h
  | cmp o a b =>
    dsimp only at h
    split at h
    · simp only [Bool.and_eq_true, Bool.not_eq_true'] at h
      obtain ⟨⟨⟨h1, h0⟩, h2⟩, h3⟩ := h
      have e := cop_eq h1
      subst e
      exact ⟨snd_cmp o C.un (ih.e C h2 hb).1 (ih.e C h3 hb).1 (noset_marks h0 _), sndT_cmp o C.un (ih.e C h2 hb).1 (ih.e C h3 hb).1 (noset_marks h0 _), fun e => by cases e⟩
    · cases h
  | chain o o' a b d =>
    dsimp only at h
    split at h
    · simp only [Bool.and_eq_true, Bool.not_eq_true'] at h
      obtain ⟨⟨⟨⟨⟨h1, h1'⟩, h0⟩, h2⟩, h3⟩, h4⟩ := h
      have e := cop_eq h1
      have e' := cop_eq h1'
      subst e e'
      exact ⟨snd_chain o o' C.un (ih.e C h2 hb).1 (ih.e C h3 hb).1 (ih.e C h4 hb).1 (noset_marks h0 _), sndT_chain o o' C.un (ih.e C h2 hb).1 (ih.e C h3 hb).1 (ih.e C h4 hb).1 (noset_marks h0 _), fun e => by cases e⟩
    · cases h
  | and a b =>
    dsimp only at h
    split at h
    · rename_i x y r p
      simp only [Bool.and_eq_true] at h
      obtain ⟨h1, h2⟩ := h
      obtain ⟨g1, g2, _⟩ := ih.e C h1 hb
      have key : PE X (.BoolOp .And (y :: r) p) (rE X XR' bs W (evE cf b0 b)) ∧ PW X (.BoolOp .And (y :: r) p) (rT X XR' bs W fun σ => (evE cf b0 b σ).bnd truD) := by
        split at h2
        · obtain ⟨f1, f2, _⟩ := ih.e C h2 hb
          exact ⟨pe_and0 f1, pw_and1 f2⟩
        · obtain ⟨f1, f2, f3⟩ := ih.e C h2 hb
          exact ⟨f1, f3 rfl⟩
      have pw := PW.rw' (m' := fun σ => (evE cf b0 (.and a b) σ).bnd truD) (sndT_and g2 key.2) fun σ => and_truth _ _
      exact ⟨snd_and g1 key.1, pw.pt, fun _ => pw⟩
    · cases h
  | or a b =>
    dsimp only at h
    split at h
    · rename_i x y r p
      simp only [Bool.and_eq_true] at h
      obtain ⟨h1, h2⟩ := h
      obtain ⟨g1, g2, _⟩ := ih.e C h1 hb
      have key : PE X (.BoolOp .Or (y :: r) p) (rE X XR' bs W (evE cf b0 b)) ∧ PW X (.BoolOp .Or (y :: r) p) (rT X XR' bs W fun σ => (evE cf b0 b σ).bnd truD) := by
        split at h2
        · obtain ⟨f1, f2, _⟩ := ih.e C h2 hb
          exact ⟨pe_or0 f1, pw_or1 f2⟩
        · obtain ⟨f1, f2, f3⟩ := ih.e C h2 hb
          exact ⟨f1, f3 rfl⟩
      have pw := PW.rw' (m' := fun σ => (evE cf b0 (.or a b) σ).bnd truD) (sndT_or g2 key.2) fun σ => or_truth _ _
      exact ⟨snd_or g1 key.1, pw.pt, fun _ => pw⟩
    · cases h
  | ite t a b =>
    dsimp only at h
    split at h
    · simp only [Bool.and_eq_true] at h
      obtain ⟨⟨h1, h2⟩, h3⟩ := h
      obtain ⟨_, g2, _⟩ := ih.e C h1 hb
      obtain ⟨f1, f2, _⟩ := ih.e C h2 hb
      obtain ⟨e1, e2, _⟩ := ih.e C h3 hb
      have e : ∀ σ, evE cf b0 (.ite t a b) σ = ((evE cf b0 t σ).bnd truD).bnd fun k => if k then evE cf b0 a σ else evE cf b0 b σ := fun σ => by rw [bnd_assoc]; rfl
      exact ⟨PE.rw' (snd_ite g2 f1 e1) e, PT.rw' (sndT_ite g2 f2 e2) fun σ => ite_truth _ _ _, fun e => by cases e⟩
    · cases h
  | tup es =>
    dsimp only at h
    split at h
    · exact good_of (snd_tup (ih.es C h hb)) rfl rfl
    · cases h
  | lst es =>
    dsimp only at h
    split at h
    · exact good_of (snd_lst (ih.es C h hb)) rfl rfl
    · cases h
  | idx a i =>
    dsimp only at h
    split at h
    · simp only [Bool.and_eq_true, Bool.not_eq_true'] at h
      exact good_of (snd_idx (ih.e C h.1.2 hb).1 (ih.e C h.2 hb).1 (slc_ix h.1.1)) rfl rfl
    · cases h
  | slc a lo hi =>
    dsimp only at h
    split at h
    · simp only [Bool.and_eq_true] at h
      refine good_of (PE.rw' (snd_slc (ih.e C h.1.1 hb).1 (ih.o C h.1.2 hb) (ih.o C h.2 hb)) fun σ => ?_) rfl rfl
      show ((evE cf b0 a σ).bnd fun x => _) = _
      congr 1
      funext x
      rw [bnd_assoc]
      congr 1
      funext l
      congr 1
      funext l'
      rw [bnd_assoc]
    · cases h
  | rev a =>
    dsimp only at h
    split at h
    · simp only [Bool.and_eq_true, decide_eq_true_eq] at h
      obtain ⟨h1, h2⟩ := h
      subst h1
      exact good_of (snd_rev (ih.e C h2 hb).1) rfl rfl
    · cases h
  | call f es =>
    dsimp only at h
    split at h
    · simp only [Bool.and_eq_true, decide_eq_true_eq] at h
      obtain ⟨⟨⟨⟨h1, h2⟩, h3⟩, h4⟩, h5⟩ := h
      exact good_of (sn_call ih C hb h1 h2 h3 h4 h5) rfl rfl
    · cases h
  | callk f pm es ks =>
    dsimp only at h
    split at h
    · simp only [Bool.and_eq_true, decide_eq_true_eq] at h
      obtain ⟨⟨⟨⟨⟨⟨⟨⟨h1, h2⟩, h3⟩, h4⟩, h5⟩, h6⟩, h7⟩, h8⟩, h9⟩ := h
      exact good_of (sn_callk all C hb h1 h2 h3 h4 h5 h6 h7 h8 h9) rfl rfl
    · cases h
  | blt o es =>
    dsimp only at h
    split at h
    · simp only [Bool.and_eq_true, decide_eq_true_eq] at h
      obtain ⟨⟨⟨h1, h2⟩, h3⟩, h4⟩ := h
      subst h1
      simp only [noStar, Bool.and_eq_true, Bool.not_eq_true'] at h3
      exact good_of (snd_blt C.calm C.grd C.un (C.free h2).1 (C.free h2).2 (ih.es C h4 hb) (star_cons h3.1 _ _) (nostar_any h3.2 _ _)) rfl rfl
    · cases h
  | mth m o es =>
    dsimp only at h
    split at h
    · rename_i y nm ap xs p
      simp only [Bool.and_eq_true, decide_eq_true_eq] at h
      obtain ⟨⟨⟨⟨⟨⟨⟨h1, h2⟩, h3⟩, h4⟩, h5⟩, h6⟩, h7⟩, h8⟩ := h
      subst h1
      cases xs with
      | nil =>
        have e : es = .nil := by
          cases n with
          | zero => simp [okEs] at h8
          | succ n =>
            unfold okEs at h8
            cases es with
            | nil => rfl
            | cons _ _ => simp at h8
            | star _ _ => simp at h8
        subst e
        exact good_of (snd_mth0 hb h2 C.un (ih.e C h7 hb).1 (call_plain h3 _ _) h4) rfl rfl
      | cons x xs =>
        have h6' := h6
        simp only [noStar, Bool.and_eq_true, Bool.not_eq_true'] at h6'
        refine good_of (snd_mth hb h2 C.un (ih.e C h7 hb).1 (ih.es C h8 hb) (call_plain h3 _ _) ?_ h4 (star_cons h6'.1 _ _) (nostar_any h6'.2 _ _)) rfl rfl
        rw [nostar_all h6]
        simp only [Bool.true_and, Bool.and_eq_true, decide_eq_true_eq]
        exact ⟨rfl, by simpa using h5⟩
    · cases h
  | isi a ts =>
    dsimp only at h
    split at h
    · simp only [Bool.and_eq_true, Bool.not_eq_true', decide_eq_true_eq] at h
      obtain ⟨⟨⟨⟨h1, h2⟩, h3⟩, h4⟩, h5⟩ := h
      subst h1
      split at h5
      · simp only [Bool.and_eq_true, decide_eq_true_eq] at h5
        obtain ⟨e1, e2⟩ := h5
        subst e1
        exact good_of (isi_one (C.free h2).1 (C.free h2).2 (C.free e2).1 (C.free e2).2 (ih.e C h4 hb).1 (star_cons h3 _ _)) rfl rfl
      · simp only [Bool.and_eq_true, decide_eq_true_eq] at h5
        obtain ⟨⟨⟨e1, e2⟩, e3⟩, e4⟩ := h5
        subst e1 e3
        exact good_of (isi_two (C.free h2).1 (C.free h2).2 (C.free e2).1 (C.free e2).2 (C.free e4).1 (C.free e4).2 (ih.e C h4 hb).1 (star_cons h3 _ _)) rfl rfl
      · cases h5
    · cases h
  | comp a t it kk =>
    dsimp only at h
    split at h
    · simp only [Bool.and_eq_true, decide_eq_true_eq] at h
      obtain ⟨h1, h2⟩ := h
      subst h1
      have g := ih.co C h2 hb (bs := bs) (b0 := b0)
      exact good_of (PE.rw' (sndE_ofC (sndC_comp C.calm C.nd' g.hi g.ok g.hv g.hg g.ht g.he g.hs)) fun σ => by rw [bnd_assoc]; rfl) rfl rfl
    · cases h
  | compV a t i kk =>
    dsimp only at h
    split at h
    · simp only [Bool.and_eq_true, decide_eq_true_eq] at h
      obtain ⟨⟨⟨⟨h1, h2⟩, h3⟩, h4⟩, h5⟩ := h
      subst h1
      have g := ih.co C h2 hb (bs := bs) (b0 := b0)
      exact good_of (PE.rw' (sndE_ofC (sndC_compV C.calm C.nd' (sndV_var (C.ix h3) (C.vis h4) (plainN_ok h5).1 (plainN_ok h5).2) g.ok g.hv g.hg g.ht g.he g.hs)) fun σ => by
        symm
        show _ = (liveV σ i).bnd fun lx => (compGo (fun x => (chkL lx.1 lx.2).bnd fun _ => turnM (slotsT t) (evTg cf b0 t) (evC cf b0 kk) (oneM (evE cf b0 a)) σ x) lx.2 []).bnd fun ys => (chkL lx.1 lx.2).bnd fun _ => M.ret (D.p (.list ys))
        rw [bnd_assoc]
        congr 1
        funext lx
        rw [bnd_assoc]
        congr 1
        funext ys
        rw [bnd_assoc]
        rfl) rfl rfl
    · cases h
  | lstI it =>
    cases it with
    | rng1 a =>
      dsimp only at h
      split at h
      · simp only [Bool.and_eq_true, Bool.not_eq_true', decide_eq_true_eq] at h
        obtain ⟨⟨⟨⟨⟨h1, h2⟩, h3⟩, h4⟩, h5⟩, h6⟩ := h
        subst h1 h3
        exact good_of (sndE_ofC (sndC_lstRg C.calm (C.free h2).1 (C.free h2).2 (C.free h4).1 (C.free h4).2 (ih.e C h6 hb).1 (star_cons h5 _ _))) rfl rfl
      · cases h
    | _ => cases h
  | tupI it =>
    cases it with
    | rng1 a =>
      dsimp only at h
      split at h
      · simp only [Bool.and_eq_true, Bool.not_eq_true', decide_eq_true_eq] at h
        obtain ⟨⟨⟨⟨⟨h1, h2⟩, h3⟩, h4⟩, h5⟩, h6⟩ := h
        subst h1 h3
        exact good_of (snd_tupRg C.calm (C.free h2).1 (C.free h2).2 (C.free h4).1 (C.free h4).2 (ih.e C h6 hb).1 (star_cons h5 _ _)) rfl rfl
      · cases h
    | _ => cases h
  | opn a =>
    cases a with
    | lstI it =>
      cases it with
      | rng1 a =>
        dsimp only at h
        split at h
        · simp only [Bool.and_eq_true, Bool.not_eq_true', decide_eq_true_eq] at h
          obtain ⟨⟨⟨⟨⟨h1, h2⟩, h3⟩, h4⟩, h5⟩, h6⟩ := h
          subst h1 h3
          exact good_of (sndE_opn (sndC_lstRg C.calm (C.free h2).1 (C.free h2).2 (C.free h4).1 (C.free h4).2 (ih.e C h6 hb).1 (star_cons h5 _ _))) rfl rfl
        · cases h
      | _ => cases h
    | comp a t it kk =>
      dsimp only at h
      split at h
      · simp only [Bool.and_eq_true, decide_eq_true_eq] at h
        obtain ⟨h1, h2⟩ := h
        subst h1
        have g := ih.co C h2 hb (bs := bs) (b0 := b0)
        exact good_of (PE.rw' (sndE_opn (sndC_comp C.calm C.nd' g.hi g.ok g.hv g.hg g.ht g.he g.hs)) fun σ => by
          show (evE cf b0 (.comp a t it kk) σ).bnd opnD = _
          congr 1
          rw [bnd_assoc]; rfl) rfl rfl
      · cases h
    | bin o a b =>
      cases o with
      | add =>
        dsimp only at h
        split at h
        · simp only [Bool.and_eq_true] at h
          exact good_of (sndE_addOpn (ih.e C h.1 hb).1 (ih.e C h.2 hb).1) rfl rfl
        · cases h
      | _ => cases h
    | lst es =>
      cases es with
      | nil =>
        dsimp only at h
        split at h
        · exact good_of (sndE_opn sndC_nil) rfl rfl
        · cases h
      | _ => cases h
    | _ => cases h
  | comp2 a t it kk t' it' kk' =>
    dsimp only at h
    split at h
    · simp only [Bool.and_eq_true, decide_eq_true_eq] at h
      obtain ⟨⟨h1, h1'⟩, h2⟩ := h
      subst h1 h1'
      exact good_of (PE.rw' (sndE_ofC (sn_co2 all C h2 hb)) fun σ => by rw [bnd_assoc]; rfl) rfl rfl
    · cases h
  | setc a t it kk =>
    dsimp only at h
    split at h
    · simp only [Bool.and_eq_true, decide_eq_true_eq] at h
      obtain ⟨h1, h2⟩ := h
      subst h1
      have g := ih.co C h2 hb (bs := bs) (b0 := b0)
      exact good_of (PE.rw' (sndE_setc C.calm C.nd' g.hi g.ok g.hv g.hg g.ht g.he g.hs) fun σ => rfl) rfl rfl
    · cases h
  | stop => exact ⟨⟨fun pins s σ H Q I ⟨ex, bt, st, env, S, V, C⟩ => (show False from C).elim⟩, ⟨fun pins s σ H Q I ⟨ex, bt, st, env, S, V, C⟩ => (show False from C).elim⟩, fun _ => ⟨fun whole pins s σ H Q I ⟨ex, bt, st, env, S, V, C⟩ => (show False from C).elim⟩⟩
theorem sn_all : ∀ n, ∀ m, m ≤ n → Sn c N XR k cf m
  | 0, m, h => by
    have e : m = 0 := Nat.le_zero.mp h
    subst e
    exact sn_zero
  | n + 1, m, h => by
    have all := sn_all n
    rcases Nat.lt_or_ge m (n + 1) with hm | hm
    · exact all m (Nat.lt_succ_iff.mp hm)
    · have e : m = n + 1 := Nat.le_antisymm h hm
      subst e
      have ih := all n (Nat.le_refl n)
      exact ⟨fun C _ _ h _ _ hb => sn_e all C h hb, fun C _ _ _ _ _ _ _ _ _ h _ _ hb => sn_co ih C h hb, fun C _ _ h _ _ hb => sn_es ih C h hb, fun C _ _ h _ _ hb => sn_o ih C h hb, fun C _ _ _ h _ _ hb => sn_i ih C h hb, fun C _ _ _ h _ _ hb => sn_g ih C h hb, fun C _ _ _ h _ _ hb => sn_gs ih C h hb⟩
end
end Ev

end
section
set_option maxHeartbeats 16000000
/-! Ev 30: every statement. -/
namespace Ev
open PySem PySem.Spec PyProof.Rows L2
def dumE (sc : Scope) : PySem.Env := { scope := sc, locals := 0, globals := 0, cells := [] }
def pureOf {α : Type} : Sem α → Option α
  | .pure a => some a
  | _ => none
theorem pureOf_ok {α : Type} {t : Sem α} {a : α} (h : pureOf t = some a) : t = pure a := by
  cases t <;> first | (cases h; rfl) | (cases h; done)
theorem swap_env (ts : List Expr) (v : Expr) (env : PySem.Env) : swappedStores ts v env = swappedStores ts v (dumE env.scope) := rfl
theorem block_env (env : PySem.Env) : env.blockKind = (dumE env.scope).blockKind := rfl
theorem kind_env (env : PySem.Env) (x : Str) : env.kindOf x = (dumE env.scope).kindOf x := rfl
theorem swaps_no {x : Expr} (h : isCompE x = false) (t : Option Expr) (l : Nat) (env : PySem.Env) : swapsWith x t l env = pure false := by
  cases x <;> first | rfl | (simp [isCompE] at h)
def swB (sc : Scope) (t : Str) (p pos : Pos) (scope : Scope) : Bool := (dumE sc).blockKind == .function && (dumE sc).kindOf t == some .local && p.line == pos.line && !(scope.names.any fun (n, k) => n == t && (k == .local || k == .cell))
theorem swaps_comp {elt : Expr} {gens : List Comprehension} {scope : Scope} {pos p : Pos} {t : Str} {l : Nat} (env : PySem.Env) : swapsWith (.ListComp elt gens scope pos) (some (.Name t p)) l env = pure (swB env.scope t p pos scope) := rfl
def isTupE : Expr → Bool
  | .Tuple _ _ _ => true
  | _ => false
theorem swapped_no {ts : List Expr} {x : Expr} (h : isTupE x = false) (env : PySem.Env) : swappedStores ts x env = pure none := by
  cases x <;> first | (simp [isTupE] at h; done) | (cases ts with
    | nil => rfl
    | cons t ts => cases ts with
      | nil => cases t <;> rfl
      | cons u us => cases t <;> rfl)
def okStore (sc : Scope) (tg x : Expr) : Bool := !isTupE x || decide (pureOf (swappedStores [tg] x (dumE sc)) = some none)
mutual
def okS (c : Cf) (N : List Str) : Nat → Pl → Stmt → S → Bool
  | 0, _, _, _ => false
  | n + 1, q, st, a => match a with
    | .asg t e => (match st with
      | .Assign [tg] x pos => (match t, tg with
        | .name i, .Name y py => decide (N[i]? = some y) && stoB q y && (match x, e with
          | .ListComp z [⟨tg', iter, ifs, isA⟩] scope p2, .comp a t' it kk => decide (isA = 0) && okCo c N n q z a tg' t' iter it ifs kk scope && (!swB q.sc y py p2 scope || locB q.sc y)
          | .ListComp z [⟨tg', iter, ifs, isA⟩, ⟨tg2, iter2, ifs2, isA2⟩] scope p2, .comp2 a t' it kk t2 it2 kk2 => decide (isA = 0) && decide (isA2 = 0) && okCo2 c N n q z a tg' t' iter it ifs kk tg2 t2 iter2 it2 ifs2 kk2 scope && (!swB q.sc y py p2 scope || locB q.sc y)
          | _, _ => !isCompE x && okE c N n q x e)
        | _, _ => !isCompE x && !isStar tg && okStore q.sc tg x && okE c N n q x e && okTg c N n q (slotsT t) tg t)
      | _ => false)
    | .asgL i e => (match st with
      | .Assign [.Name y py] x pos => decide (N[i]? = some y) && stoB q y && (match x, e with
        | .List xs _, .lst es => okEs c N n q xs es
        | .ListComp z [⟨tg', iter, ifs, isA⟩] scope p2, .comp a t' it kk => decide (isA = 0) && okCo c N n q z a tg' t' iter it ifs kk scope && (!swB q.sc y py p2 scope || locB q.sc y)
        | _, _ => false)
      | _ => false)
    | .par is es => (match st, is with
      | .Assign [.Tuple [.Name x _, .Name y _] _ _] (.Tuple [u, v] _ _) _, [i, j] => decide (N[i]? = some x) && decide (N[j]? = some y) && decide (i ≠ j) && locB q.sc x && locB q.sc y && okEs c N n q [u, v] es &&
          (match st with
          | .Assign tgs val _ => decide (pureOf (swappedStores tgs val (dumE q.sc)) = some (some [x, y]))
          | _ => false)
      | .Assign [.Tuple [.Name x _, .Name y _, .Name z _] _ _] (.Tuple [u, v, w] _ _) _, [i, j, l] => decide (N[i]? = some x) && decide (N[j]? = some y) && decide (N[l]? = some z) && decide (i ≠ j) && decide (i ≠ l) && decide (j ≠ l) && locB q.sc x && locB q.sc y && locB q.sc z && okEs c N n q [u, v, w] es &&
          (match st with
          | .Assign tgs val _ => decide (pureOf (swappedStores tgs val (dumE q.sc)) = some (some [x, y, z]))
          | _ => false)
      | _, _ => false)
    | .aug i o e => (match st with
      | .AugAssign (.Name y _) op x _ => decide (N[i]? = some y) && stoB q y && bopB o op && okE c N n q x e
      | _ => false)
    | .expr e => (match st with
      | .Expr x _ => !isCompE x && okE c N n q x e
      | _ => false)
    | .ret e => (match st with
      | .Return (some x) _ => okE c N n q x e
      | _ => false)
    | .retL e => (match st with
      | .Return (some x) _ => (match x, e with
        | .List xs _, .lst es => okEs c N n q xs es
        | .ListComp z [⟨tg', iter, ifs, isA⟩] scope p2, .comp a t' it kk => decide (isA = 0) && okCo c N n q z a tg' t' iter it ifs kk scope
        | _, _ => false)
      | _ => false)
    | .retN => (match st with
      | .Return none _ => true
      | _ => false)
    | .ife e a b => (match st with
      | .If x y z _ => okE c N n q x e && okSs c N n q y a && okSs c N n q z b
      | _ => false)
    | .for t it b => (match st with
      | .For tg iter body [] _ => !isSet iter && okI c N n q tg iter it && okTg c N n q (slotsT t) tg t && okSs c N n q body b
      | _ => false)
    | .whl _ e b => (match st with
      | .While x body [] _ => okE c N n q x e && okSs c N n q body b
      | _ => false)
    | .pass => (match st with
      | .Pass _ => true
      | .Expr (.Constant (.str _) _ _) _ => true
      | _ => false)
    | .stop => true
    | _ => false
def okSs (c : Cf) (N : List Str) : Nat → Pl → List Stmt → Ss → Bool
  | 0, _, _, _ => false
  | n + 1, q, sts, ss => match ss with
    | .nil => sts.isEmpty
    | .cons (.frz i) ss => okSs c N n q sts ss
    | .cons s ss => (match sts with
      | st :: sts => okS c N n q st s && okSs c N n q sts ss
      | [] => false)
end
end Ev

end
section
set_option maxHeartbeats 16000000
/-! Ev 31: what is checked is sound: statements. -/
namespace Ev
open PySem PySem.Spec PyProof.Rows L2
section
variable {c : Cf} {N : List Str} {XR : Nat → Option P → XK → Hp → Prop} {k : Nat} {cf : CF} {n : Nat} {X : Cx} {q : Pl} {W : WX} {bs : List Nat} {b0 : Nat}
structure St2 (c : Cf) (N : List Str) (XR : Nat → Option P → XK → Hp → Prop) (k : Nat) (cf : CF) (n : Nat) : Prop where
  s : ∀ {X : Cx} {q : Pl} {W : WX}, Ctx c N XR XR k cf X q W → PassesOwn (model X.prog X.w) X.A X.env X.xe → ∀ {st : Stmt} {a : S}, okS c N n q st a = true → ∀ {bs : List Nat} {b0 : Nat}, (∀ b, b ∈ bs → b ≤ b0) → PS X st (rS X XR bs W (evS cf b0 a))
  ss : ∀ {X : Cx} {q : Pl} {W : WX}, Ctx c N XR XR k cf X q W → PassesOwn (model X.prog X.w) X.A X.env X.xe → ∀ {sts : List Stmt} {a : Ss}, okSs c N n q sts a = true → ∀ {bs : List Nat} {b0 : Nat}, (∀ b, b ∈ bs → b ≤ b0) → PSs X sts (rS X XR bs W (evSs cf b0 a))
theorem PS.rw' {st : Stmt} {m m' : Env → Store → SR} (h : PS X st (rS X XR bs W m)) (e : ∀ σ s, m' σ s = m σ s) : PS X st (rS X XR bs W m') := by
  have : m' = m := funext fun σ => funext fun s => e σ s
  rw [this]; exact h
theorem swap_ok {ts : List Expr} {v : Expr} {o : Option (List Str)} (C : Ctx c N XR XR k cf X q W) (h : decide (pureOf (swappedStores ts v (dumE q.sc)) = some o) = true) : swappedStores ts v X.env = pure o := by
  rw [swap_env, C.sc]
  exact pureOf_ok (of_decide_eq_true h)
theorem store_ok' {tg x : Expr} (C : Ctx c N XR XR k cf X q W) (h : okStore q.sc tg x = true) : swappedStores [tg] x X.env = pure none := by
  unfold okStore at h
  rw [Bool.or_eq_true, Bool.not_eq_true'] at h
  rcases h with h | h
  · exact swapped_no h X.env
  · exact swap_ok C h
theorem comp_eq (a : E) (t : Tg) (it : I) (kk : Eo) : (fun σ => ((evI cf b0 it σ).bnd fun xs => compGo (turnM (slotsT t) (evTg cf b0 t) (evC cf b0 kk) (oneM (evE cf b0 a)) σ) xs []).bnd fun ys => M.ret (D.p (.list ys))) = evE cf b0 (.comp a t it kk) := by
  funext σ
  rw [bnd_assoc]
  rfl
theorem comp2_eq (a : E) (t : Tg) (it : I) (kk : Eo) (t' : Tg) (it' : I) (kk' : Eo) : (fun σ => ((evI cf b0 it σ).bnd fun xs => compGo (turnM (slotsT t ++ slotsT t') (evTg cf b0 t) (evC cf b0 kk) (innM (slotsT t') (evI cf b0 it') (evTg cf b0 t') (evC cf b0 kk') (evE cf b0 a)) σ) xs []).bnd fun ys => M.ret (D.p (.list ys))) = evE cf b0 (.comp2 a t it kk t' it' kk') := by
  funext σ
  rw [bnd_assoc]
  rfl
theorem compL_eq (a : E) (t : Tg) (it : I) (kk : Eo) : (fun σ => ((evI cf b0 it σ).bnd fun xs => compGo (turnM (slotsT t) (evTg cf b0 t) (evC cf b0 kk) (oneM (evE cf b0 a)) σ) xs []).bnd fun ys => M.ret (ys.map D.p)) = evL cf b0 (.comp a t it kk) := by
  funext σ
  show _ = ((evE cf b0 (.comp a t it kk) σ).bnd fun x => match x with
    | .p (.list ps) => M.ret (ps.map D.p)
    | _ => M.bad)
  rw [← congrFun (comp_eq a t it kk) σ]
  conv => rhs; rw [bnd_assoc]
  rfl
theorem sn_set (all : ∀ m, m ≤ n → Sn c N XR k cf m) (C : Ctx c N XR XR k cf X q W) {y : Str} {py pos p2 : Pos} {i : Nat} {z tg iter : Expr} {ifs : List Expr} {isA : Int} {scope : Scope} {a : E} {t : Tg} {it : I} {kk : Eo} {mr : Env → Store → SR} (hb : ∀ b, b ∈ bs → b ≤ b0) (h1 : N[i]? = some y) (h2 : stoB q y = true) (h3 : isA = 0)
    (h4 : okCo c N n q z a tg t iter it ifs kk scope = true) (h5 : (!swB q.sc y py p2 scope || locB q.sc y) = true) (hE : PE X (.ListComp z [⟨tg, iter, ifs, isA⟩] scope p2) (rC X XR bs W fun σ => (evI cf b0 it σ).bnd fun xs => compGo (turnM (slotsT t) (evTg cf b0 t) (evC cf b0 kk) (oneM (evE cf b0 a)) σ) xs []) → swB q.sc y py p2 scope = false → PS X (.Assign [.Name y py] (.ListComp z [⟨tg, iter, ifs, isA⟩] scope p2) pos) (rS X XR bs W mr))
    (hr : ∀ D σ H, rS X XR bs W mr D σ H → rC X XR bs W (fun σ => (evI cf b0 it σ).bnd fun xs => compGo (turnM (slotsT t) (evTg cf b0 t) (evC cf b0 kk) (oneM (evE cf b0 a)) σ) xs []) σ H fun v H' => D.nx (σ.set i (some v)) H') :
    PS X (.Assign [.Name y py] (.ListComp z [⟨tg, iter, ifs, isA⟩] scope p2) pos) (rS X XR bs W mr) := by
  subst h3
  have g := (all n (Nat.le_refl n)).co C h4 hb (bs := bs) (b0 := b0)
  cases e : swB q.sc y py p2 scope with
  | false => exact hE (sndC_comp C.calm C.nd' g.hi g.ok g.hv g.hg g.ht g.he g.hs) e
  | true =>
    rw [e] at h5
    have hl := locB_ok (show locB q.sc y = true by simpa using h5)
    refine sndS_setC C.calm C.nd' (C.ix h1) (by rw [C.sc]; exact hl) ?_ g.hi g.ok g.hv g.hg g.ht g.he g.hs rfl hr
    rw [swaps_comp, C.sc, e]
theorem sn_s (all : ∀ m, m ≤ n → Sn c N XR k cf m) (ih : St2 c N XR k cf n) (C : Ctx c N XR XR k cf X q W) (hp : PassesOwn (model X.prog X.w) X.A X.env X.xe) {st : Stmt} {a : S} (h : okS c N (n + 1) q st a = true) (hb : ∀ b, b ∈ bs → b ≤ b0) : PS X st (rS X XR bs W (evS cf b0 a)) := by
  have ie := all n (Nat.le_refl n)
  unfold okS at h
  cases a with
  | asg t e =>
    dsimp only at h
    split at h
    · rename_i tg x pos
      split at h
      · rename_i i y py
        simp only [Bool.and_eq_true, decide_eq_true_eq] at h
        obtain ⟨⟨h1, h2⟩, h3⟩ := h
        obtain ⟨s1, s2⟩ := C.sto h2
        split at h3
        · simp only [Bool.and_eq_true, decide_eq_true_eq] at h3
          obtain ⟨⟨h4, h5⟩, h6⟩ := h3
          refine sn_set all C hb h1 h2 h4 h5 h6 (fun hE e => ?_) fun D σ H hr => ?_
          · have hE2 := sndE_ofC hE
            rw [comp_eq] at hE2
            refine PS.rw' (sndS_set C.nd' (C.ix h1) s1 hE2 ?_ s2) fun σ s => rfl
            rw [swaps_comp, C.sc, e]
          · refine ofC_rd ?_
            rw [comp_eq]
            exact set_rd hr
        · simp only [Bool.and_eq_true, decide_eq_true_eq] at h3
          obtain ⟨⟨⟨h4, h4'⟩, h5⟩, h6⟩ := h3
          subst h4 h4'
          rename_i z tg' iter ifs isA tg2 iter2 ifs2 isA2 scope p2 a t' it kk t2 it2 kk2
          cases e : swB q.sc y py p2 scope with
          | false =>
            have hE2 := sndE_ofC (sn_co2 all C h5 hb (XR' := XR) (W := W) (pos := p2))
            rw [comp2_eq] at hE2
            refine PS.rw' (sndS_set C.nd' (C.ix h1) s1 hE2 ?_ s2) fun σ s => rfl
            rw [swaps_comp, C.sc, e]
          | true =>
            rw [e] at h6
            refine sn_set2 all C h1 (by simpa using h6) ?_ h5 hb fun D σ H hr => ?_
            · rw [swaps_comp, C.sc, e]
            · refine ofC_rd ?_
              rw [comp2_eq]
              exact set_rd hr
        · simp only [Bool.and_eq_true, Bool.not_eq_true'] at h3
          exact PS.rw' (sndS_set C.nd' (C.ix h1) s1 (ie.e C h3.2 hb).1 (swaps_no h3.1 _ _ _) s2) fun σ s => rfl
      · simp only [Bool.and_eq_true, Bool.not_eq_true'] at h
        obtain ⟨⟨⟨⟨h1, h2⟩, h3⟩, h4⟩, h5⟩ := h
        exact sndS_asg (ie.e C h4 hb).1 (PG.plain (ie.g C h5 hb)) (swaps_no h1 _ _ _) (store_ok' C h3) (by rw [asg_cons h2]; rfl)
    · cases h
  | asgL i e =>
    dsimp only at h
    split at h
    · rename_i y py x pos
      simp only [Bool.and_eq_true, decide_eq_true_eq] at h
      obtain ⟨⟨h1, h2⟩, h3⟩ := h
      obtain ⟨s1, s2⟩ := C.sto h2
      split at h3
      · exact sndS_asgL C.nd' (C.ix h1) s1 (sndL_lst (ie.es C h3 hb)) rfl s2
      · simp only [Bool.and_eq_true, decide_eq_true_eq] at h3
        obtain ⟨⟨h4, h5⟩, h6⟩ := h3
        refine sn_set all C hb h1 h2 h4 h5 h6 (fun hE e => ?_) fun D σ H hr => ?_
        · have hE2 := sndL_ofC hE
          rw [compL_eq] at hE2
          refine PS.rw' (sndS_asgL C.nd' (C.ix h1) s1 hE2 ?_ s2) fun σ s => rfl
          rw [swaps_comp, C.sc, e]
        · refine lofC_rd ?_
          rw [compL_eq]
          exact asgL_ok hr
      · cases h3
    · cases h
  | par is es =>
    dsimp only at h
    split at h
    · simp only [Bool.and_eq_true, decide_eq_true_eq] at h
      obtain ⟨⟨⟨⟨⟨⟨h1, h2⟩, h3⟩, h4⟩, h5⟩, h6⟩, h7⟩ := h
      exact sndS_par C.calm C.nd' (C.ix h1) (C.ix h2) h3 (by rw [C.sc]; exact locB_ok h4) (by rw [C.sc]; exact locB_ok h5) (ie.es C h6 hb) (swap_ok C (decide_eq_true h7)) rfl
    · simp only [Bool.and_eq_true, decide_eq_true_eq] at h
      obtain ⟨⟨⟨⟨⟨⟨⟨⟨⟨⟨h1, h2⟩, h3⟩, d1⟩, d2⟩, d3⟩, h4⟩, h5⟩, h5'⟩, h6⟩, h7⟩ := h
      exact sndS_par3 C.calm C.nd' (C.ix h1) (C.ix h2) (C.ix h3) d1 d2 d3 (by rw [C.sc]; exact locB_ok h4) (by rw [C.sc]; exact locB_ok h5) (by rw [C.sc]; exact locB_ok h5') (ie.es C h6 hb) (swap_ok C (decide_eq_true h7)) rfl
    · cases h
  | aug i o e =>
    dsimp only at h
    split at h
    · simp only [Bool.and_eq_true, decide_eq_true_eq] at h
      obtain ⟨⟨⟨h1, h2⟩, h3⟩, h4⟩ := h
      obtain ⟨s1, s2⟩ := C.sto h2
      have e := bop_eq h3
      subst e
      exact sndS_aug C.nd' (C.ix h1) s1 (ie.e C h4 hb).1 s2
    · cases h
  | expr e =>
    dsimp only at h
    split at h
    · simp only [Bool.and_eq_true, Bool.not_eq_true'] at h
      exact sndS_expr (ie.e C h.2 hb).1 (swaps_no h.1 _ _ _)
    · cases h
  | ret e =>
    dsimp only at h
    split at h
    · exact sndS_ret (ie.e C h hb).1
    · cases h
  | retL e =>
    dsimp only at h
    split at h
    · split at h
      · exact sndS_retL (sndL_lst (ie.es C h hb))
      · simp only [Bool.and_eq_true, decide_eq_true_eq] at h
        obtain ⟨h1, h2⟩ := h
        subst h1
        have g := ie.co C h2 hb (bs := bs) (b0 := b0)
        refine sndS_retL ?_
        rw [← compL_eq]
        exact sndL_ofC (sndC_comp C.calm C.nd' g.hi g.ok g.hv g.hg g.ht g.he g.hs)
      · cases h
    · cases h
  | retN =>
    dsimp only at h
    split at h
    · exact sndS_retN
    · cases h
  | ife e a b =>
    dsimp only at h
    split at h
    · simp only [Bool.and_eq_true] at h
      exact sndS_if (ie.e C h.1.1 hb).2.1 (ih.ss C hp h.1.2 hb) (ih.ss C hp h.2 hb)
    · cases h
  | «for» t it b =>
    dsimp only at h
    split at h
    · simp only [Bool.and_eq_true, Bool.not_eq_true'] at h
      exact sndS_for hp C.calm (ie.i C h.1.1.2 hb) (PG.plain (ie.g C h.1.2 hb)) (ih.ss C hp h.2 hb) (noset_fold h.1.1.1 _)
    · cases h
  | whl m e b =>
    dsimp only at h
    split at h
    · simp only [Bool.and_eq_true] at h
      exact sndS_while hp (ie.e C h.1 hb).2.1 (ih.ss C hp h.2 hb)
    · cases h
  | rse _ _ => cases h
  | frz _ => cases h
  | stop => exact ⟨fun pins s σ H D I ⟨ex, bt, st, env, S, V, C⟩ => (show False from C).elim⟩
  | pass =>
    dsimp only at h
    split at h
    · exact sndS_pass
    · exact sndS_doc
    · cases h
theorem sn_ss (ih : St2 c N XR k cf n) (C : Ctx c N XR XR k cf X q W) (hp : PassesOwn (model X.prog X.w) X.A X.env X.xe) {sts : List Stmt} {a : Ss} (h : okSs c N (n + 1) q sts a = true) (hb : ∀ b, b ∈ bs → b ≤ b0) : PSs X sts (rS X XR bs W (evSs cf b0 a)) := by
  unfold okSs at h
  cases a with
  | nil =>
    cases sts with
    | nil => exact sndS_nil
    | cons _ _ => simp at h
  | cons s ss =>
    have nofrz : ∀ {st : Stmt} {r : List Stmt}, (okS c N n q st s && okSs c N n q r ss) = true → PSs X (st :: r) (rS X XR bs W (evSs cf b0 (.cons s ss))) := fun {st r} h => by
      simp only [Bool.and_eq_true] at h
      exact sndS_cons (ih.s C hp h.1 hb) (ih.ss C hp h.2 hb)
    cases s <;> first
      | exact sndS_frz (ih.ss C hp h hb)
      | (cases sts with
        | nil => simp at h
        | cons st r => exact nofrz h)
theorem st_all : ∀ n, St2 c N XR k cf n
  | 0 => ⟨fun _ _ _ _ h => by simp [okS] at h, fun _ _ _ _ h => by simp [okSs] at h⟩
  | n + 1 => ⟨fun C hp _ _ h _ _ hb => sn_s (sn_all n) (st_all n) C hp h hb, fun C hp _ _ h _ _ hb => sn_ss (st_all n) C hp h hb⟩
end
end Ev

end
section
/-! Ev 32: the law's call, from its def's promise. -/
namespace Ev
open PySem PySem.Spec PyProof.Rows L2
/-- the heap in which the script alone is known, or nothing -/
def scrHp (a : Addr) (vs : List Value) (ns : List Int) : Hp := fun b => if b = a then some (.frz { cls := .type "list", data := .seq vs.toArray } (.lst (ns.map V.int))) else none
structure AtStart (w : World) (P : Program) (K : PySem.W.Frag) (a : Addr) (ns : List Int) (t1 : Shared) (G : Hp) : Prop where
  scr : ScrAt ⟨K, w, P⟩ G a ns
  ok : HOk P w G t1.heap
  only : ∀ b, G b = none ∨ b = a
  frz : ∀ b u, G b = some u → ∃ o zs, u = .frz o (.lst zs)
  out : G a = none ∨ K.lookup a = none
section
variable {P : Program} {w : World} {K : PySem.W.Frag} {mg mb : Str → Option Value} {k : Nat} {fa a : Addr} {fd : FuncData} {x : Str} {sp : Sp} {t1 : Shared} {vs : List Value} {ns : List Int}
theorem atStart (KX : K.In t1.heap) (ha : t1.heap.get? a = some { cls := .type "list", data := .seq vs.toArray }) (hi : IntsAre vs ns) (hl : ns.length ≤ sizeLine) : ∃ G, AtStart w P K a ns t1 G := by
  have r := vals_ints hi
  cases e : K.lookup a with
  | some o =>
    have e2 := KX a o e
    rw [ha] at e2
    cases e2
    exact ⟨fun _ => none, .inr ⟨_, vs.toArray, _, e, rfl, rfl, rfl, by rw [List.size_toArray, hi.length]; exact hl, by simpa using r⟩, fun b u z => (by cases z), fun b => .inl rfl, fun b u z => (by cases z), .inl rfl⟩
  | none =>
    refine ⟨scrHp a vs ns, .inl ⟨{ cls := .type "list", data := .seq vs.toArray }, if_pos rfl⟩, fun b u z => ?_, fun b => ?_, fun b u z => ?_, .inr e⟩
    · unfold scrHp at z
      split at z
      · rename_i eb
        subst eb
        cases z
        exact ⟨ha, by rw [List.length_map]; exact hl, vs, _, r, ha⟩
      · cases z
    · by_cases eb : b = a
      · exact .inr eb
      · exact .inl (if_neg eb)
    · unfold scrHp at z
      split at z
      · cases z; exact ⟨_, _, rfl⟩
      · cases z
theorem lawG (KX : K.In t1.heap) (n1 : t1.heap.Ns mainGlobals mg) (n2 : t1.heap.Ns builtinsNs mb) (n3 : ∀ y : Str, y ≠ "__name__" → mb y = bootBuiltins y) (n4 : t1.heap.NoLimit) (n5 : t1.gens = #[])
    (ha : t1.heap.get? a = some { cls := .type "list", data := .seq vs.toArray }) (hi : IntsAre vs ns) (hl : ns.length ≤ sizeLine) (rm : Room k callerA)
    (F : ∀ g : Heap, K.In g → g.Ns mainGlobals mg → FnG P w K mg g (L2.CX P w) k fa fd [x] sp) (bnd : ∀ (s : Shared) (u : Value), K.In s.heap → BindsTo s fd ⟨[u], []⟩ [(x, u)])
    (hsp : ∀ G : Hp, ScrAt ⟨K, w, P⟩ G a ns → sp [.ref a] G (fun v _ => v = .bl true) fun _ _ _ => False) :
    codeAny (model P w) callerA (.call (.ref fa) ⟨[.ref a], []⟩) (fun r t2 => r = .ok (.ret (.bool true)) ∧ OldK t1.heap t2.heap ∧ t2.os = t1.os ∧ AllBare t2.gens) t1 := by
  obtain ⟨G, g1, g2, g3, g4, g5⟩ := atStart (w := w) (P := P) KX ha hi hl
  have low : ∀ {b : Addr} {o : Obj}, t1.heap.get? b = some o → G b = none → (hidT t1.heap G).get? b = some o := fun e z => hidT_get e z
  have lowNs : ∀ {b : Addr} {m : Str → Option Value}, t1.heap.Ns b m → (hidT t1.heap G).Ns b m := by
    rintro b m ⟨o, es, ep, e1, e2, e3⟩
    refine ⟨o, es, ep, low e1 ?_, e2, e3⟩
    rcases g3 b with z | rfl
    · exact z
    · rw [ha] at e1
      cases e1
      exact absurd (show Data.seq vs.toArray _ = Data.dict es ep from e2) (fun z => by cases z)
  have lowK : K.In (hidT t1.heap G) := fun b o e => low (KX b o e) (by
    rcases g3 b with z | rfl
    · exact z
    · rcases g5 with z | z
      · exact z
      · rw [z] at e; cases e)
  have md : Mod K mg (hidT t1.heap G) := ⟨lowK, lowNs n1, ⟨mb, lowNs n2, n3⟩, by obtain ⟨mc, q1, q2⟩ := n4; exact ⟨mc, lowNs q1, q2⟩⟩
  have e0 : Env0 P w K mg (hidT t1.heap G) callerA [] t1 G := ⟨rfl, md, fun _ _ e => of_hidT e, Nat.le_of_eq (hidT_size _ _), trivial, fun b z => (by cases z), g2, .of_eq n5⟩
  have go := (F _ lowK (lowNs n1)).run callerA [] t1 G ⟨[.ref a], []⟩ [.ref a] [.ref a] _ _ rm rfl e0 (bnd t1 (.ref a) KX) (.cons rfl .nil) (hsp G g1)
  refine codeAny_mono go ?_
  rintro (e | fl) t2 q
  · obtain ⟨_, _, _, _, _, _, _, _, _, _, _, _, z⟩ := q
    exact z.elim
  · cases fl with
    | ret u =>
      obtain ⟨v, G2, os, bare, un, ok2, r, q⟩ := q
      have q : v = .bl true := q
      subst q
      obtain rfl : u = Value.bool true := r
      refine ⟨rfl, OldK.of_keep fun b o e => ?_, os, bare⟩
      cases z : G b with
      | none => exact un.keep b o e z (fun y => by cases y) (by simp)
      | some hu =>
        obtain ⟨ob, zs, rfl⟩ := g4 b hu z
        have z2 := un.frzs b ob _ z
        have y1 := (g2 b _ z).1
        have y2 := (ok2 b _ z2).1
        rw [e] at y1
        cases y1
        exact y2
    | next => exact False.elim q
    | brk => exact False.elim q
    | cont => exact False.elim q
/-- the open law's walk -/
theorem walkG {l : PySem.W.OpenLaw} {n k : Nat} {q : Program} {loose : List Str} {XP : (Str → Option Value) → Heap → Prop} {YP : World → Heap → Prop} {d : DefRec} {x : Str}
    (hn : l.most = some n) (hn2 : n ≤ sizeLine) (hdf : d.params.defaults = []) (rm : Room k callerA)
    (F : ∀ (w : World) (mg : Str → Option Value) (fa : Addr) (h : Heap), YP w h → h.Ns mainGlobals mg → mg d.name = some (.ref fa) →
      ∃ (K : PySem.W.Frag) (fd : FuncData) (sp : Sp), K.In h ∧ (∀ (s : Shared) (u : Value), K.In s.heap → BindsTo s fd ⟨[u], []⟩ [(x, u)]) ∧
        (∀ (G : Hp) (a : Addr) (ns : List Int), ns.length ≤ n → ScrAt ⟨K, w, l.prog⟩ G a ns → sp [.ref a] G (fun v _ => v = .bl true) fun _ _ _ => False) ∧
        ∀ g : Heap, K.In g → g.Ns mainGlobals mg → FnG l.prog w K mg g (L2.CX l.prog w) k fa fd [x] sp) :
    PySem.W.WalkO q loose XP YP l.row.toRowW d [] (fun f vs => PySem.call f vs) := by
  refine Att.attach_call hn hdf fun w s0 t1 mg mb fa o pm cd doc a vs ns G Y ho hd hcd hmg hobj hints hlen hg => ?_
  obtain ⟨K, fd, sp, KX, h1, h2, h3⟩ := F w mg fa _ Y G.T.g hmg
  exact lawG KX G.T.g G.T.b G.T.builtins G.T.nolimit hg hobj hints (Nat.le_trans hlen hn2) rm h3 h1 fun H q => h2 H a ns hlen q
end
end Ev

end
section
/-! Ev 33: a law's defs, all at once. -/
namespace Ev
open PySem PySem.Spec PyProof.Rows L2
/-- a def: its datum for the head; its number, names, parameters, own text -/
structure DI where
  d : He.DefD
  id : Nat
  N : List Str
  ps : List Str
  fd : FD
structure LI where
  c : Cf
  defs : List DI
  T : Tab
  L : Nat → Bool
  fuel : Nat
def okDI (l : LI) (e : DI) : Bool :=
  decide (e.d.at_.2 = none) && decide (e.d.qual = e.d.name) && C8.scC e.N e.ps e.d.scope && decide (e.fd.ps = e.ps.length) && decide (e.fd.ns = e.N.length) && okSs l.c e.N l.fuel ⟨e.d.scope, fun _ => true⟩ e.d.body e.fd.body
/-- what a def's binder does -/
def BindOk (e : DI) : Prop := ∀ (kV doc pm : Value) (an : Option Addr) (cdv ct : Value) (us : List Value), us.length = e.ps.length → bindArgs (PySem.W.fnOf e.d.name e.d.qual e.d.params e.d.body e.d.scope .none kV doc pm an cdv ct) ⟨us, []⟩ = pure (e.ps.zip us)
def KeyOk (e : DI) (ks : List Str) (n : Nat) (pm : List Nat) : Prop := ∀ (kV doc pmd : Value) (an : Option Addr) (cdv ct : Value) (us : List Value), us.length = n + ks.length →
  bindArgs (PySem.W.fnOf e.d.name e.d.qual e.d.params e.d.body e.d.scope .none kV doc pmd an cdv ct) ⟨us.take n, ks.zip (us.drop n)⟩ = pure (e.ps.zip (pm.filterMap fun i => us[i]?))
structure LIOk (l : LI) : Prop where
  defs : ∀ e, e ∈ l.defs → okDI l e = true
  tab : ∀ e, e ∈ l.defs → l.T e.id = some e.fd
  fns : ∀ x f, l.c.fns.lookup x = some f → ∃ e, e ∈ l.defs ∧ e.d.at_.1 = x ∧ e.id = f
  nod : ∀ e, e ∈ l.defs → e.d.dfl = [] ∧ e.d.kwd = []
  bind : ∀ e, e ∈ l.defs → BindOk e
  ids : (l.defs.map (·.id)).Nodup
  key : ∀ f ks n pm, (f, ks, n, pm) ∈ l.c.kws → ∃ e, e ∈ l.defs ∧ e.id = f ∧ KeyOk e ks n pm
section
variable {XR : Nat → Option P → XK → Hp → Prop} {pr : Program} {w : World} {K : PySem.W.Frag} {mg : Str → Option Value} {base : Heap} {l : LI}
theorem ids_inj {l : List DI} (h : (l.map (·.id)).Nodup) {a b : DI} (ha : a ∈ l) (hb : b ∈ l) (e : a.id = b.id) : a = b := by
  induction l with
  | nil => cases ha
  | cons x l ih =>
    rw [List.map_cons, List.nodup_cons] at h
    rcases List.mem_cons.mp ha with rfl | ha'
    · rcases List.mem_cons.mp hb with rfl | hb'
      · rfl
      · exact absurd (List.mem_map.mpr ⟨b, hb', e.symm⟩) h.1
    · rcases List.mem_cons.mp hb with rfl | hb'
      · exact absurd (List.mem_map.mpr ⟨a, ha', e⟩) h.1
      · exact ih h.2 ha' hb'
/-- a def as it stands behind the top -/
structure Sta (K : PySem.W.Frag) (l : LI) (e : DI) (fd : FuncData) : Prop where
  ex : ∃ oc od kV doc pm an cdv ct osl, fd = PySem.W.fnOf e.d.name e.d.qual e.d.params e.d.body e.d.scope .none kV doc pm an cdv ct ∧ K.lookup (He.fAd K e.d.at_) = some ⟨oc, od, .func fd, osl⟩ ∧ PySem.W.codeIn K cdv e.d.qual = true
  kp : PySem.W.keepIn K (.ref (He.fAd K e.d.at_)) = true
  b1 : Binds K fd e.ps []
  b2 : ∀ ks n pm', (e.id, ks, n, pm') ∈ l.c.kws → KBg K fd e.ps ks n pm'
theorem sta_of (ok : LIOk l) {e : DI} (he : e ∈ l.defs) (F : ∃ fd, FunD K e.d.name e.d.qual e.d.params e.d.body e.d.scope (e.d.dvs K) (e.d.kws K) (He.fAd K e.d.at_) fd) : ∃ fd, Sta K l e fd := by
  obtain ⟨fd, F⟩ := F
  obtain ⟨oc, od, dV, kV, doc, pm, an, cdv, ct, osl, e1, lk, hcd, hD, hK⟩ := F.ex
  subst e1
  rw [show e.d.dvs K = [] by unfold He.DefD.dvs; rw [(ok.nod e he).1]; rfl] at hD
  rcases hD with ⟨_, hD⟩ | ⟨hD, _⟩
  · subst hD
    refine ⟨_, ⟨⟨oc, od, kV, doc, pm, an, cdv, ct, osl, rfl, lk, hcd⟩, F.kp, .all (ok.bind e he kV doc pm an cdv ct), fun ks n pm' hk s us _ hl => ?_⟩⟩
    obtain ⟨e', he', i', k'⟩ := ok.key _ _ _ _ hk
    have z := ids_inj ok.ids he' he i'
    subst z
    exact .of_eq (k' kV doc pm an cdv ct us hl)
  · exact absurd rfl hD
theorem sta_fn (ok : LIOk l) {e : DI} (he : e ∈ l.defs) {fd : FuncData} (S0 : Sta K l e fd) {n : Nat} (ih : Fa l.c XR n (callF l.T l.L n) pr w K mg base) : FnG pr w K mg base (L2.CX pr w) (n + 1) (He.fAd K e.d.at_) fd e.ps (CallSp ⟨K, w, pr⟩ XR (callF l.T l.L (n + 1) e.id)) := by
  obtain ⟨oc, od, kV, doc, pm, an, cdv, ct, osl, rfl, lk, hcd⟩ := S0.ex
  have o := ok.defs e he
  unfold okDI at o
  simp only [Bool.and_eq_true, decide_eq_true_eq] at o
  obtain ⟨⟨⟨⟨⟨o1, o2⟩, o3⟩, o4⟩, o5⟩, o6⟩ := o
  have S := C8.fnScope_by o3
  refine fn_sound lk hcd S (ok.tab e he) o4 o5 fun A outer s H E hr hg bs b0 hb => ?_
  have C : Ctx l.c e.N XR XR n (callF l.T l.L n) (cxOf (L2.CX pr w) pr w K mg base e.N e.d.qual e.d.scope (He.fAd K e.d.at_) cdv A outer s H E) ⟨e.d.scope, fun _ => true⟩ (fun c d σ H => E c d H) :=
    ⟨rfl, rfl, S.nd, rfl, fun _ _ => rfl, hr, hg, ih, takes_of rfl rfl rfl rfl, fun _ _ _ _ h => h⟩
  exact (st_all l.fuel).ss C (passes_of rfl) o6 hb
theorem fa_all (ok : LIOk l) (hd : ∀ e, e ∈ l.defs → (∃ fd, FunD K e.d.name e.d.qual e.d.params e.d.body e.d.scope (e.d.dvs K) (e.d.kws K) (He.fAd K e.d.at_) fd) ∧ mg e.d.at_.1 = some (.ref (He.fAd K e.d.at_)))
    (hc : ∀ x d, l.c.cons.lookup x = some d → ∃ v u, mg x = some u ∧ RelV v u ∧ ∀ H ex, Rp ⟨K, w, pr⟩ H ex v d) (hf : ∀ x, l.c.free.contains x = true → mg x = none) (base : Heap) : ∀ n, Fa l.c XR n (callF l.T l.L n) pr w K mg base := by
  intro n
  induction n with
  | zero =>
    refine ⟨fun x f h => ?_, hc, hf⟩
    obtain ⟨e, he, rfl, rfl⟩ := ok.fns x f h
    obtain ⟨fd, S⟩ := sta_of ok he (hd e he).1
    exact ⟨_, fd, e.ps, (hd e he).2, S.kp, S.b1, S.b2, ⟨fun vs H Q E ⟨bs, ex, bt, st, ds, S, R, C⟩ => C.elim, fun A outer s H args us vs Q E _ _ _ _ _ ⟨bs, ex, bt, st, ds, S, R, C⟩ => C.elim⟩⟩
  | succ n ih =>
    refine ⟨fun x f h => ?_, hc, hf⟩
    obtain ⟨e, he, rfl, rfl⟩ := ok.fns x f h
    obtain ⟨fd, S⟩ := sta_of ok he (hd e he).1
    exact ⟨_, fd, e.ps, (hd e he).2, S.kp, S.b1, S.b2, sta_fn ok he S ih⟩
/-- the law's def: one object, its promise over every base -/
theorem law_fn (ok : LIOk l) (hd : ∀ e, e ∈ l.defs → (∃ fd, FunD K e.d.name e.d.qual e.d.params e.d.body e.d.scope (e.d.dvs K) (e.d.kws K) (He.fAd K e.d.at_) fd) ∧ mg e.d.at_.1 = some (.ref (He.fAd K e.d.at_)))
    (hc : ∀ x d, l.c.cons.lookup x = some d → ∃ v u, mg x = some u ∧ RelV v u ∧ ∀ H ex, Rp ⟨K, w, pr⟩ H ex v d) (hf : ∀ x, l.c.free.contains x = true → mg x = none) {e : DI} (he : e ∈ l.defs) {x : Str} (hx : e.ps = [x]) (n : Nat) :
    ∃ fd, (∀ (s : Shared) (u : Value), K.In s.heap → BindsTo s fd ⟨[u], []⟩ [(x, u)]) ∧ ∀ base : Heap, FnG pr w K mg base (L2.CX pr w) (n + 1) (He.fAd K e.d.at_) fd [x] (CallSp ⟨K, w, pr⟩ XR (callF l.T l.L (n + 1) e.id)) := by
  obtain ⟨fd, S⟩ := sta_of ok he (hd e he).1
  refine ⟨fd, fun s u hk => ?_, fun base => ?_⟩
  · have b := S.b1 s [u] hk (by rw [hx]; rfl)
    rw [hx] at b
    exact b
  · have f := sta_fn (XR := XR) (pr := pr) (w := w) (mg := mg) (base := base) ok he S (fa_all ok hd hc hf base n)
    rw [hx] at f
    exact f
/-- the law's def at the script -/
theorem law_sp {m : List D → M D} {G : Hp} {a : Addr} {ns : List Int} {s' : Store} (g : ScrAt ⟨K, w, pr⟩ G a ns) (h : m [.scr ns] [] = .ok (.p (.bool true)) s') : CallSp ⟨K, w, pr⟩ XR m [.ref a] G (fun v _ => v = .bl true) fun _ _ _ => False := by
  refine ⟨[], [], [], [], [.scr ns], ⟨rfl, fun b hb => (by cases hb), fun a hb => (by cases hb), fun i j a hb => (by cases hb), fun a hb => (by cases hb), fun a hb => (by cases hb), fun i xs hb => (by cases hb), fun i hb => (by cases hb), fun b hb => (by cases hb)⟩, .cons ⟨a, rfl, g⟩ .nil, ?_⟩
  rw [h]
  intro v H' ex' bt' E S r
  exact (Cur.p (show Rp _ H' ex' v (.bool true) from r)).bool
end
end Ev

end
section
/-! Ev 37: the head's facts, constants that are data among them. -/
namespace Ev
open PySem PySem.Spec PyProof.Rows L2
mutual
/-- a value of the text's top is this datum -/
def datB (K : PySem.W.Frag) : Nat → Value → P → Bool
  | 0, _, _ => false
  | n + 1, v, d => match d with
    | .none => (match v with
      | .none => true
      | _ => false)
    | .bool b => (match v with
      | .bool c => b == c
      | _ => false)
    | .int i => (match v with
      | .int j _ => decide (j = i)
      | _ => false)
    | .str x => (match v with
      | .str y _ => decide (y = x)
      | _ => false)
    | .tuple ds => (match v with
      | .ref a => (match K.lookup a with
        | some ⟨.type c, _, .seq its _, _⟩ => decide (c = "tuple") && (decide (its.size ≤ sizeLine) && datsB K n its.toList ds)
        | _ => false)
      | _ => false)
    | _ => false
def datsB (K : PySem.W.Frag) : Nat → List Value → List P → Bool
  | 0, _, _ => false
  | _ + 1, [], [] => true
  | n + 1, v :: vs, d :: ds => datB K n v d && datsB K n vs ds
  | _ + 1, _, _ => false
end
section
variable {K : PySem.W.Frag} {w : World} {pr : Program}
mutual
theorem datB_ok : ∀ (n : Nat) (v : Value) (d : P), datB K n v d = true → ∃ u, RelV u v ∧ ∀ H ex, Rp ⟨K, w, pr⟩ H ex u d
  | 0, _, _, h => by simp [datB] at h
  | n + 1, v, d, h => by
    cases d with
    | none =>
      cases v <;> first | exact ⟨.non, rfl, fun _ _ => .non⟩ | (simp [datB] at h)
    | bool b =>
      cases v with
      | bool c =>
        have e : b = c := by simpa [datB] using h
        subst e
        exact ⟨.bl b, rfl, fun _ _ => .bl b⟩
      | _ => simp [datB] at h
    | int i =>
      cases v with
      | int j t =>
        have e : j = i := by simpa [datB] using h
        subst e
        exact ⟨.int j, ⟨t, rfl⟩, fun _ _ => .int j⟩
      | _ => simp [datB] at h
    | str x =>
      cases v with
      | str y t =>
        have e : y = x := by simpa [datB] using h
        subst e
        exact ⟨.str y, ⟨t, rfl⟩, fun _ _ => .str y⟩
      | _ => simp [datB] at h
    | tuple ds =>
      cases v with
      | ref a =>
        simp only [datB] at h
        split at h
        · rename_i c od its m osl q
          simp only [Bool.and_eq_true, decide_eq_true_eq] at h
          obtain ⟨h1, h2, h3⟩ := h
          obtain ⟨us, r1, r2⟩ := datsB_ok n its.toList ds h3
          exact ⟨.ref a, rfl, fun H ex => .tup (.inr ⟨_, its, m, q, congrArg Value.type h1, rfl, h2, r1⟩) (r2 H ex)⟩
        · cases h
      | _ => simp [datB] at h
    | list _ => simp [datB] at h
    | dict _ => simp [datB] at h
theorem datsB_ok : ∀ (n : Nat) (vs : List Value) (ds : List P), datsB K n vs ds = true → ∃ us, Vals us vs ∧ ∀ H ex, Rps ⟨K, w, pr⟩ H ex us ds
  | 0, _, _, h => by simp [datsB] at h
  | _ + 1, [], [], _ => ⟨[], .nil, fun _ _ => .nil⟩
  | n + 1, v :: vs, d :: ds, h => by
    simp only [datsB, Bool.and_eq_true] at h
    obtain ⟨u, a1, a2⟩ := datB_ok n v d h.1
    obtain ⟨us, b1, b2⟩ := datsB_ok n vs ds h.2
    exact ⟨u :: us, .cons a1 b1, fun H ex => .cons (a2 H ex) (b2 H ex)⟩
  | _ + 1, [], _ :: _, h => by simp [datsB] at h
  | _ + 1, _ :: _, [], h => by simp [datsB] at h
end
end
/-- a constant of the module -/
def conB (K : PySem.W.Frag) (x : Str × P) : Bool := match PySem.W.nsIn K mainGlobals x.1 with
  | some (some v) => datB K 40 v x.2
  | _ => false
theorem cons_ok {K : PySem.W.Frag} {h : Heap} {mg : Str → Option Value} {w : World} {pr : Program} {cs : List (Str × P)} (X : K.In h) (G : h.Ns mainGlobals mg) (e : cs.all (conB K) = true) : ∀ x d, cs.lookup x = some d → ∃ v u, mg x = some u ∧ RelV v u ∧ ∀ H ex, Rp ⟨K, w, pr⟩ H ex v d := by
  intro x d hx
  have c := List.all_eq_true.mp e _ (PySem.mem_of_lookup hx)
  unfold conB at c
  split at c
  · rename_i v hv
    obtain ⟨u, r, q⟩ := datB_ok (K := K) (w := w) (pr := pr) 40 v d c
    exact ⟨u, v, PySem.W.mg_of X G hv, r, q⟩
  · cases c
/-! ### the hook -/
def obsTG (n : Nat) (fa : List He.Fa) (fn : List He.DefD) (ex : PySem.W.Frag → Bool) (g : Addr → Option Obj) : He.AlD × Bool := (He.obsDG n fa fn g, ex (He.frG g (He.asD g n)))
def hookT (n : Nat) (fa : List He.Fa) (fn : List He.DefD) (ex : PySem.W.Frag → Bool) : PySem.W.Hook where
  α := He.AlD × Bool
  obs := fun s => obsTG n fa fn ex s.heap.get?
  val := fun _ => (He.valD fn, true)
  says := fun _ h => ∃ K : PySem.W.Frag, K.In h ∧ He.SaysD fa fn K ∧ ex K = true
  of := fun _ _ e => ⟨_, He.frG_in, congrArg (fun z : He.AlD × Bool => z.1) e, congrArg (fun z : He.AlD × Bool => z.2) e⟩
  keeps := fun _ _ _ ⟨K, hK, c, x⟩ k => ⟨K, PySem.W.Frag.In.keeps hK k, c, x⟩
theorem obsTG_eq {n : Nat} {fa : List He.Fa} {fn : List He.DefD} {ex : PySem.W.Frag → Bool} {g : Addr → Option Obj} {s : Shared} (h : ∀ a, g a = s.heap.get? a) : obsTG n fa fn ex g = (hookT n fa fn ex).obs s := by
  have e : g = s.heap.get? := funext h
  rw [e] <;> rfl
end Ev

end
section
/-! Ev 34: steps of an evaluation at a store; what is to be done next is a constant's partial application. -/
namespace Ev
open PySem
section
variable {a b c : Type}
def Res.and (r : Res a) (f : a → Store → Res b) : Res b := match r with
  | .ok x s => f x s
  | .exn c v s => .exn c v s
  | .bad => .bad
def Res.calm (r : Res a) : Res a := match r with
  | .ok x s => .ok x s
  | _ => .bad
def Res.ofO (o : Option a) (s : Store) : Res a := match o with
  | some x => .ok x s
  | none => .bad
@[simp] theorem and_ok (x : a) (s : Store) (f : a → Store → Res b) : Res.and (.ok x s) f = f x s := rfl
@[simp] theorem and_ite (p : Prop) [Decidable p] (x y : Res a) (f : a → Store → Res b) : Res.and (if p then x else y) f = if p then Res.and x f else Res.and y f := by split <;> rfl
theorem and_and (r : Res a) (f : a → Store → Res b) (g : b → Store → Res c) : Res.and (Res.and r f) g = Res.and r fun x s => Res.and (f x s) g := by cases r <;> rfl
@[simp] theorem calm_ok (x : a) (s : Store) : Res.calm (.ok x s) = .ok x s := rfl
@[simp] theorem calm_ite (p : Prop) [Decidable p] (x y : Res a) : Res.calm (if p then x else y) = if p then Res.calm x else Res.calm y := by split <;> rfl
@[simp] theorem ofO_some (x : a) (s : Store) : Res.ofO (some x) s = .ok x s := rfl
@[simp] theorem ofO_ite (p : Prop) [Decidable p] (x y : Option a) (s : Store) : Res.ofO (if p then x else y) s = if p then Res.ofO x s else Res.ofO y s := by split <;> rfl
@[simp] theorem ret_app (x : a) (s : Store) : M.ret x s = .ok x s := rfl
@[simp] theorem bnd_app (m : M a) (f : a → M b) (s : Store) : M.bnd m f s = Res.and (m s) f := rfl
@[simp] theorem opt_app (o : Option a) (s : Store) : M.opt o s = Res.ofO o s := by cases o <;> rfl
@[simp] theorem calm_app (m : M a) (s : Store) : M.calm m s = Res.calm (m s) := rfl
@[simp] theorem ite_app (p : Prop) [Decidable p] (m n : M a) (s : Store) : (if p then m else n) s = if p then m s else n s := by split <;> rfl
@[simp] theorem st_ok (σ : Env) (x : a) (s : Store) (f : a → Store → SR) : Res.st σ (.ok x s) f = f x s := rfl
@[simp] theorem st_ite (σ : Env) (p : Prop) [Decidable p] (x y : Res a) (f : a → Store → SR) : Res.st σ (if p then x else y) f = if p then Res.st σ x f else Res.st σ y f := by split <;> rfl
@[simp] theorem nx_nxt (σ : Env) (s : Store) (f : Env → Store → SR) : (SR.nx σ s).nxt f = f σ s := rfl
@[simp] theorem rt_nxt (d : D) (s : Store) (f : Env → Store → SR) : (SR.rt d s).nxt f = .rt d s := rfl
@[simp] theorem ite_nxt (p : Prop) [Decidable p] (r q : SR) (f : Env → Store → SR) : (if p then r else q).nxt f = if p then r.nxt f else q.nxt f := by split <;> rfl
end
/-! ### names -/
def getV (σ : Env) (i : Nat) (s : Store) : Res D := match σ[i]? with
  | some (some d) => .ok d s
  | _ => .bad
def setV (σ : Env) (i : Nat) (d : D) : Env := σ.set i (some d)
def wipV (σ : Env) (i : Nat) : Env := σ.set i none
@[simp] theorem wipe_nil (σ : Env) : wipeE σ [] = σ := rfl
@[simp] theorem wipe_cons (σ : Env) (v : Nat) (vs : List Nat) : wipeE σ (v :: vs) = wipV (wipeE σ vs) v := rfl
@[simp] theorem getV_0 {d : D} {σ : Env} {s : Store} : getV (some d :: σ) 0 s = .ok d s := rfl
@[simp] theorem setV_0 {x : Option D} {d : D} {σ : Env} : setV (x :: σ) 0 d = some d :: σ := rfl
@[simp] theorem wipV_0 {x : Option D} {σ : Env} : wipV (x :: σ) 0 = none :: σ := rfl
@[simp] theorem getV_1 {x0 : Option D} {d : D} {σ : Env} {s : Store} : getV (x0 :: some d :: σ) 1 s = .ok d s := rfl
@[simp] theorem setV_1 {x0 : Option D} {x : Option D} {d : D} {σ : Env} : setV (x0 :: x :: σ) 1 d = x0 :: some d :: σ := rfl
@[simp] theorem wipV_1 {x0 : Option D} {x : Option D} {σ : Env} : wipV (x0 :: x :: σ) 1 = x0 :: none :: σ := rfl
@[simp] theorem getV_2 {x0 x1 : Option D} {d : D} {σ : Env} {s : Store} : getV (x0 :: x1 :: some d :: σ) 2 s = .ok d s := rfl
@[simp] theorem setV_2 {x0 x1 : Option D} {x : Option D} {d : D} {σ : Env} : setV (x0 :: x1 :: x :: σ) 2 d = x0 :: x1 :: some d :: σ := rfl
@[simp] theorem wipV_2 {x0 x1 : Option D} {x : Option D} {σ : Env} : wipV (x0 :: x1 :: x :: σ) 2 = x0 :: x1 :: none :: σ := rfl
@[simp] theorem getV_3 {x0 x1 x2 : Option D} {d : D} {σ : Env} {s : Store} : getV (x0 :: x1 :: x2 :: some d :: σ) 3 s = .ok d s := rfl
@[simp] theorem setV_3 {x0 x1 x2 : Option D} {x : Option D} {d : D} {σ : Env} : setV (x0 :: x1 :: x2 :: x :: σ) 3 d = x0 :: x1 :: x2 :: some d :: σ := rfl
@[simp] theorem wipV_3 {x0 x1 x2 : Option D} {x : Option D} {σ : Env} : wipV (x0 :: x1 :: x2 :: x :: σ) 3 = x0 :: x1 :: x2 :: none :: σ := rfl
@[simp] theorem getV_4 {x0 x1 x2 x3 : Option D} {d : D} {σ : Env} {s : Store} : getV (x0 :: x1 :: x2 :: x3 :: some d :: σ) 4 s = .ok d s := rfl
@[simp] theorem setV_4 {x0 x1 x2 x3 : Option D} {x : Option D} {d : D} {σ : Env} : setV (x0 :: x1 :: x2 :: x3 :: x :: σ) 4 d = x0 :: x1 :: x2 :: x3 :: some d :: σ := rfl
@[simp] theorem wipV_4 {x0 x1 x2 x3 : Option D} {x : Option D} {σ : Env} : wipV (x0 :: x1 :: x2 :: x3 :: x :: σ) 4 = x0 :: x1 :: x2 :: x3 :: none :: σ := rfl
@[simp] theorem getV_5 {x0 x1 x2 x3 x4 : Option D} {d : D} {σ : Env} {s : Store} : getV (x0 :: x1 :: x2 :: x3 :: x4 :: some d :: σ) 5 s = .ok d s := rfl
@[simp] theorem setV_5 {x0 x1 x2 x3 x4 : Option D} {x : Option D} {d : D} {σ : Env} : setV (x0 :: x1 :: x2 :: x3 :: x4 :: x :: σ) 5 d = x0 :: x1 :: x2 :: x3 :: x4 :: some d :: σ := rfl
@[simp] theorem wipV_5 {x0 x1 x2 x3 x4 : Option D} {x : Option D} {σ : Env} : wipV (x0 :: x1 :: x2 :: x3 :: x4 :: x :: σ) 5 = x0 :: x1 :: x2 :: x3 :: x4 :: none :: σ := rfl
@[simp] theorem getV_6 {x0 x1 x2 x3 x4 x5 : Option D} {d : D} {σ : Env} {s : Store} : getV (x0 :: x1 :: x2 :: x3 :: x4 :: x5 :: some d :: σ) 6 s = .ok d s := rfl
@[simp] theorem setV_6 {x0 x1 x2 x3 x4 x5 : Option D} {x : Option D} {d : D} {σ : Env} : setV (x0 :: x1 :: x2 :: x3 :: x4 :: x5 :: x :: σ) 6 d = x0 :: x1 :: x2 :: x3 :: x4 :: x5 :: some d :: σ := rfl
@[simp] theorem wipV_6 {x0 x1 x2 x3 x4 x5 : Option D} {x : Option D} {σ : Env} : wipV (x0 :: x1 :: x2 :: x3 :: x4 :: x5 :: x :: σ) 6 = x0 :: x1 :: x2 :: x3 :: x4 :: x5 :: none :: σ := rfl
@[simp] theorem getV_7 {x0 x1 x2 x3 x4 x5 x6 : Option D} {d : D} {σ : Env} {s : Store} : getV (x0 :: x1 :: x2 :: x3 :: x4 :: x5 :: x6 :: some d :: σ) 7 s = .ok d s := rfl
@[simp] theorem setV_7 {x0 x1 x2 x3 x4 x5 x6 : Option D} {x : Option D} {d : D} {σ : Env} : setV (x0 :: x1 :: x2 :: x3 :: x4 :: x5 :: x6 :: x :: σ) 7 d = x0 :: x1 :: x2 :: x3 :: x4 :: x5 :: x6 :: some d :: σ := rfl
@[simp] theorem wipV_7 {x0 x1 x2 x3 x4 x5 x6 : Option D} {x : Option D} {σ : Env} : wipV (x0 :: x1 :: x2 :: x3 :: x4 :: x5 :: x6 :: x :: σ) 7 = x0 :: x1 :: x2 :: x3 :: x4 :: x5 :: x6 :: none :: σ := rfl
@[simp] theorem getV_8 {x0 x1 x2 x3 x4 x5 x6 x7 : Option D} {d : D} {σ : Env} {s : Store} : getV (x0 :: x1 :: x2 :: x3 :: x4 :: x5 :: x6 :: x7 :: some d :: σ) 8 s = .ok d s := rfl
@[simp] theorem setV_8 {x0 x1 x2 x3 x4 x5 x6 x7 : Option D} {x : Option D} {d : D} {σ : Env} : setV (x0 :: x1 :: x2 :: x3 :: x4 :: x5 :: x6 :: x7 :: x :: σ) 8 d = x0 :: x1 :: x2 :: x3 :: x4 :: x5 :: x6 :: x7 :: some d :: σ := rfl
@[simp] theorem wipV_8 {x0 x1 x2 x3 x4 x5 x6 x7 : Option D} {x : Option D} {σ : Env} : wipV (x0 :: x1 :: x2 :: x3 :: x4 :: x5 :: x6 :: x7 :: x :: σ) 8 = x0 :: x1 :: x2 :: x3 :: x4 :: x5 :: x6 :: x7 :: none :: σ := rfl
@[simp] theorem getV_9 {x0 x1 x2 x3 x4 x5 x6 x7 x8 : Option D} {d : D} {σ : Env} {s : Store} : getV (x0 :: x1 :: x2 :: x3 :: x4 :: x5 :: x6 :: x7 :: x8 :: some d :: σ) 9 s = .ok d s := rfl
@[simp] theorem setV_9 {x0 x1 x2 x3 x4 x5 x6 x7 x8 : Option D} {x : Option D} {d : D} {σ : Env} : setV (x0 :: x1 :: x2 :: x3 :: x4 :: x5 :: x6 :: x7 :: x8 :: x :: σ) 9 d = x0 :: x1 :: x2 :: x3 :: x4 :: x5 :: x6 :: x7 :: x8 :: some d :: σ := rfl
@[simp] theorem wipV_9 {x0 x1 x2 x3 x4 x5 x6 x7 x8 : Option D} {x : Option D} {σ : Env} : wipV (x0 :: x1 :: x2 :: x3 :: x4 :: x5 :: x6 :: x7 :: x8 :: x :: σ) 9 = x0 :: x1 :: x2 :: x3 :: x4 :: x5 :: x6 :: x7 :: x8 :: none :: σ := rfl
@[simp] theorem getV_10 {x0 x1 x2 x3 x4 x5 x6 x7 x8 x9 : Option D} {d : D} {σ : Env} {s : Store} : getV (x0 :: x1 :: x2 :: x3 :: x4 :: x5 :: x6 :: x7 :: x8 :: x9 :: some d :: σ) 10 s = .ok d s := rfl
@[simp] theorem setV_10 {x0 x1 x2 x3 x4 x5 x6 x7 x8 x9 : Option D} {x : Option D} {d : D} {σ : Env} : setV (x0 :: x1 :: x2 :: x3 :: x4 :: x5 :: x6 :: x7 :: x8 :: x9 :: x :: σ) 10 d = x0 :: x1 :: x2 :: x3 :: x4 :: x5 :: x6 :: x7 :: x8 :: x9 :: some d :: σ := rfl
@[simp] theorem wipV_10 {x0 x1 x2 x3 x4 x5 x6 x7 x8 x9 : Option D} {x : Option D} {σ : Env} : wipV (x0 :: x1 :: x2 :: x3 :: x4 :: x5 :: x6 :: x7 :: x8 :: x9 :: x :: σ) 10 = x0 :: x1 :: x2 :: x3 :: x4 :: x5 :: x6 :: x7 :: x8 :: x9 :: none :: σ := rfl
@[simp] theorem getV_11 {x0 x1 x2 x3 x4 x5 x6 x7 x8 x9 x10 : Option D} {d : D} {σ : Env} {s : Store} : getV (x0 :: x1 :: x2 :: x3 :: x4 :: x5 :: x6 :: x7 :: x8 :: x9 :: x10 :: some d :: σ) 11 s = .ok d s := rfl
@[simp] theorem setV_11 {x0 x1 x2 x3 x4 x5 x6 x7 x8 x9 x10 : Option D} {x : Option D} {d : D} {σ : Env} : setV (x0 :: x1 :: x2 :: x3 :: x4 :: x5 :: x6 :: x7 :: x8 :: x9 :: x10 :: x :: σ) 11 d = x0 :: x1 :: x2 :: x3 :: x4 :: x5 :: x6 :: x7 :: x8 :: x9 :: x10 :: some d :: σ := rfl
@[simp] theorem wipV_11 {x0 x1 x2 x3 x4 x5 x6 x7 x8 x9 x10 : Option D} {x : Option D} {σ : Env} : wipV (x0 :: x1 :: x2 :: x3 :: x4 :: x5 :: x6 :: x7 :: x8 :: x9 :: x10 :: x :: σ) 11 = x0 :: x1 :: x2 :: x3 :: x4 :: x5 :: x6 :: x7 :: x8 :: x9 :: x10 :: none :: σ := rfl
@[simp] theorem getV_12 {x0 x1 x2 x3 x4 x5 x6 x7 x8 x9 x10 x11 : Option D} {d : D} {σ : Env} {s : Store} : getV (x0 :: x1 :: x2 :: x3 :: x4 :: x5 :: x6 :: x7 :: x8 :: x9 :: x10 :: x11 :: some d :: σ) 12 s = .ok d s := rfl
@[simp] theorem setV_12 {x0 x1 x2 x3 x4 x5 x6 x7 x8 x9 x10 x11 : Option D} {x : Option D} {d : D} {σ : Env} : setV (x0 :: x1 :: x2 :: x3 :: x4 :: x5 :: x6 :: x7 :: x8 :: x9 :: x10 :: x11 :: x :: σ) 12 d = x0 :: x1 :: x2 :: x3 :: x4 :: x5 :: x6 :: x7 :: x8 :: x9 :: x10 :: x11 :: some d :: σ := rfl
@[simp] theorem wipV_12 {x0 x1 x2 x3 x4 x5 x6 x7 x8 x9 x10 x11 : Option D} {x : Option D} {σ : Env} : wipV (x0 :: x1 :: x2 :: x3 :: x4 :: x5 :: x6 :: x7 :: x8 :: x9 :: x10 :: x11 :: x :: σ) 12 = x0 :: x1 :: x2 :: x3 :: x4 :: x5 :: x6 :: x7 :: x8 :: x9 :: x10 :: x11 :: none :: σ := rfl
@[simp] theorem getV_13 {x0 x1 x2 x3 x4 x5 x6 x7 x8 x9 x10 x11 x12 : Option D} {d : D} {σ : Env} {s : Store} : getV (x0 :: x1 :: x2 :: x3 :: x4 :: x5 :: x6 :: x7 :: x8 :: x9 :: x10 :: x11 :: x12 :: some d :: σ) 13 s = .ok d s := rfl
@[simp] theorem setV_13 {x0 x1 x2 x3 x4 x5 x6 x7 x8 x9 x10 x11 x12 : Option D} {x : Option D} {d : D} {σ : Env} : setV (x0 :: x1 :: x2 :: x3 :: x4 :: x5 :: x6 :: x7 :: x8 :: x9 :: x10 :: x11 :: x12 :: x :: σ) 13 d = x0 :: x1 :: x2 :: x3 :: x4 :: x5 :: x6 :: x7 :: x8 :: x9 :: x10 :: x11 :: x12 :: some d :: σ := rfl
@[simp] theorem wipV_13 {x0 x1 x2 x3 x4 x5 x6 x7 x8 x9 x10 x11 x12 : Option D} {x : Option D} {σ : Env} : wipV (x0 :: x1 :: x2 :: x3 :: x4 :: x5 :: x6 :: x7 :: x8 :: x9 :: x10 :: x11 :: x12 :: x :: σ) 13 = x0 :: x1 :: x2 :: x3 :: x4 :: x5 :: x6 :: x7 :: x8 :: x9 :: x10 :: x11 :: x12 :: none :: σ := rfl
@[simp] theorem getV_14 {x0 x1 x2 x3 x4 x5 x6 x7 x8 x9 x10 x11 x12 x13 : Option D} {d : D} {σ : Env} {s : Store} : getV (x0 :: x1 :: x2 :: x3 :: x4 :: x5 :: x6 :: x7 :: x8 :: x9 :: x10 :: x11 :: x12 :: x13 :: some d :: σ) 14 s = .ok d s := rfl
@[simp] theorem setV_14 {x0 x1 x2 x3 x4 x5 x6 x7 x8 x9 x10 x11 x12 x13 : Option D} {x : Option D} {d : D} {σ : Env} : setV (x0 :: x1 :: x2 :: x3 :: x4 :: x5 :: x6 :: x7 :: x8 :: x9 :: x10 :: x11 :: x12 :: x13 :: x :: σ) 14 d = x0 :: x1 :: x2 :: x3 :: x4 :: x5 :: x6 :: x7 :: x8 :: x9 :: x10 :: x11 :: x12 :: x13 :: some d :: σ := rfl
@[simp] theorem wipV_14 {x0 x1 x2 x3 x4 x5 x6 x7 x8 x9 x10 x11 x12 x13 : Option D} {x : Option D} {σ : Env} : wipV (x0 :: x1 :: x2 :: x3 :: x4 :: x5 :: x6 :: x7 :: x8 :: x9 :: x10 :: x11 :: x12 :: x13 :: x :: σ) 14 = x0 :: x1 :: x2 :: x3 :: x4 :: x5 :: x6 :: x7 :: x8 :: x9 :: x10 :: x11 :: x12 :: x13 :: none :: σ := rfl
@[simp] theorem getV_15 {x0 x1 x2 x3 x4 x5 x6 x7 x8 x9 x10 x11 x12 x13 x14 : Option D} {d : D} {σ : Env} {s : Store} : getV (x0 :: x1 :: x2 :: x3 :: x4 :: x5 :: x6 :: x7 :: x8 :: x9 :: x10 :: x11 :: x12 :: x13 :: x14 :: some d :: σ) 15 s = .ok d s := rfl
@[simp] theorem setV_15 {x0 x1 x2 x3 x4 x5 x6 x7 x8 x9 x10 x11 x12 x13 x14 : Option D} {x : Option D} {d : D} {σ : Env} : setV (x0 :: x1 :: x2 :: x3 :: x4 :: x5 :: x6 :: x7 :: x8 :: x9 :: x10 :: x11 :: x12 :: x13 :: x14 :: x :: σ) 15 d = x0 :: x1 :: x2 :: x3 :: x4 :: x5 :: x6 :: x7 :: x8 :: x9 :: x10 :: x11 :: x12 :: x13 :: x14 :: some d :: σ := rfl
@[simp] theorem wipV_15 {x0 x1 x2 x3 x4 x5 x6 x7 x8 x9 x10 x11 x12 x13 x14 : Option D} {x : Option D} {σ : Env} : wipV (x0 :: x1 :: x2 :: x3 :: x4 :: x5 :: x6 :: x7 :: x8 :: x9 :: x10 :: x11 :: x12 :: x13 :: x14 :: x :: σ) 15 = x0 :: x1 :: x2 :: x3 :: x4 :: x5 :: x6 :: x7 :: x8 :: x9 :: x10 :: x11 :: x12 :: x13 :: x14 :: none :: σ := rfl
@[simp] theorem getV_16 {x0 x1 x2 x3 x4 x5 x6 x7 x8 x9 x10 x11 x12 x13 x14 x15 : Option D} {d : D} {σ : Env} {s : Store} : getV (x0 :: x1 :: x2 :: x3 :: x4 :: x5 :: x6 :: x7 :: x8 :: x9 :: x10 :: x11 :: x12 :: x13 :: x14 :: x15 :: some d :: σ) 16 s = .ok d s := rfl
@[simp] theorem setV_16 {x0 x1 x2 x3 x4 x5 x6 x7 x8 x9 x10 x11 x12 x13 x14 x15 : Option D} {x : Option D} {d : D} {σ : Env} : setV (x0 :: x1 :: x2 :: x3 :: x4 :: x5 :: x6 :: x7 :: x8 :: x9 :: x10 :: x11 :: x12 :: x13 :: x14 :: x15 :: x :: σ) 16 d = x0 :: x1 :: x2 :: x3 :: x4 :: x5 :: x6 :: x7 :: x8 :: x9 :: x10 :: x11 :: x12 :: x13 :: x14 :: x15 :: some d :: σ := rfl
@[simp] theorem wipV_16 {x0 x1 x2 x3 x4 x5 x6 x7 x8 x9 x10 x11 x12 x13 x14 x15 : Option D} {x : Option D} {σ : Env} : wipV (x0 :: x1 :: x2 :: x3 :: x4 :: x5 :: x6 :: x7 :: x8 :: x9 :: x10 :: x11 :: x12 :: x13 :: x14 :: x15 :: x :: σ) 16 = x0 :: x1 :: x2 :: x3 :: x4 :: x5 :: x6 :: x7 :: x8 :: x9 :: x10 :: x11 :: x12 :: x13 :: x14 :: x15 :: none :: σ := rfl
@[simp] theorem getV_17 {x0 x1 x2 x3 x4 x5 x6 x7 x8 x9 x10 x11 x12 x13 x14 x15 x16 : Option D} {d : D} {σ : Env} {s : Store} : getV (x0 :: x1 :: x2 :: x3 :: x4 :: x5 :: x6 :: x7 :: x8 :: x9 :: x10 :: x11 :: x12 :: x13 :: x14 :: x15 :: x16 :: some d :: σ) 17 s = .ok d s := rfl
@[simp] theorem setV_17 {x0 x1 x2 x3 x4 x5 x6 x7 x8 x9 x10 x11 x12 x13 x14 x15 x16 : Option D} {x : Option D} {d : D} {σ : Env} : setV (x0 :: x1 :: x2 :: x3 :: x4 :: x5 :: x6 :: x7 :: x8 :: x9 :: x10 :: x11 :: x12 :: x13 :: x14 :: x15 :: x16 :: x :: σ) 17 d = x0 :: x1 :: x2 :: x3 :: x4 :: x5 :: x6 :: x7 :: x8 :: x9 :: x10 :: x11 :: x12 :: x13 :: x14 :: x15 :: x16 :: some d :: σ := rfl
@[simp] theorem wipV_17 {x0 x1 x2 x3 x4 x5 x6 x7 x8 x9 x10 x11 x12 x13 x14 x15 x16 : Option D} {x : Option D} {σ : Env} : wipV (x0 :: x1 :: x2 :: x3 :: x4 :: x5 :: x6 :: x7 :: x8 :: x9 :: x10 :: x11 :: x12 :: x13 :: x14 :: x15 :: x16 :: x :: σ) 17 = x0 :: x1 :: x2 :: x3 :: x4 :: x5 :: x6 :: x7 :: x8 :: x9 :: x10 :: x11 :: x12 :: x13 :: x14 :: x15 :: x16 :: none :: σ := rfl
@[simp] theorem getV_18 {x0 x1 x2 x3 x4 x5 x6 x7 x8 x9 x10 x11 x12 x13 x14 x15 x16 x17 : Option D} {d : D} {σ : Env} {s : Store} : getV (x0 :: x1 :: x2 :: x3 :: x4 :: x5 :: x6 :: x7 :: x8 :: x9 :: x10 :: x11 :: x12 :: x13 :: x14 :: x15 :: x16 :: x17 :: some d :: σ) 18 s = .ok d s := rfl
@[simp] theorem setV_18 {x0 x1 x2 x3 x4 x5 x6 x7 x8 x9 x10 x11 x12 x13 x14 x15 x16 x17 : Option D} {x : Option D} {d : D} {σ : Env} : setV (x0 :: x1 :: x2 :: x3 :: x4 :: x5 :: x6 :: x7 :: x8 :: x9 :: x10 :: x11 :: x12 :: x13 :: x14 :: x15 :: x16 :: x17 :: x :: σ) 18 d = x0 :: x1 :: x2 :: x3 :: x4 :: x5 :: x6 :: x7 :: x8 :: x9 :: x10 :: x11 :: x12 :: x13 :: x14 :: x15 :: x16 :: x17 :: some d :: σ := rfl
@[simp] theorem wipV_18 {x0 x1 x2 x3 x4 x5 x6 x7 x8 x9 x10 x11 x12 x13 x14 x15 x16 x17 : Option D} {x : Option D} {σ : Env} : wipV (x0 :: x1 :: x2 :: x3 :: x4 :: x5 :: x6 :: x7 :: x8 :: x9 :: x10 :: x11 :: x12 :: x13 :: x14 :: x15 :: x16 :: x17 :: x :: σ) 18 = x0 :: x1 :: x2 :: x3 :: x4 :: x5 :: x6 :: x7 :: x8 :: x9 :: x10 :: x11 :: x12 :: x13 :: x14 :: x15 :: x16 :: x17 :: none :: σ := rfl
@[simp] theorem getV_19 {x0 x1 x2 x3 x4 x5 x6 x7 x8 x9 x10 x11 x12 x13 x14 x15 x16 x17 x18 : Option D} {d : D} {σ : Env} {s : Store} : getV (x0 :: x1 :: x2 :: x3 :: x4 :: x5 :: x6 :: x7 :: x8 :: x9 :: x10 :: x11 :: x12 :: x13 :: x14 :: x15 :: x16 :: x17 :: x18 :: some d :: σ) 19 s = .ok d s := rfl
@[simp] theorem setV_19 {x0 x1 x2 x3 x4 x5 x6 x7 x8 x9 x10 x11 x12 x13 x14 x15 x16 x17 x18 : Option D} {x : Option D} {d : D} {σ : Env} : setV (x0 :: x1 :: x2 :: x3 :: x4 :: x5 :: x6 :: x7 :: x8 :: x9 :: x10 :: x11 :: x12 :: x13 :: x14 :: x15 :: x16 :: x17 :: x18 :: x :: σ) 19 d = x0 :: x1 :: x2 :: x3 :: x4 :: x5 :: x6 :: x7 :: x8 :: x9 :: x10 :: x11 :: x12 :: x13 :: x14 :: x15 :: x16 :: x17 :: x18 :: some d :: σ := rfl
@[simp] theorem wipV_19 {x0 x1 x2 x3 x4 x5 x6 x7 x8 x9 x10 x11 x12 x13 x14 x15 x16 x17 x18 : Option D} {x : Option D} {σ : Env} : wipV (x0 :: x1 :: x2 :: x3 :: x4 :: x5 :: x6 :: x7 :: x8 :: x9 :: x10 :: x11 :: x12 :: x13 :: x14 :: x15 :: x16 :: x17 :: x18 :: x :: σ) 19 = x0 :: x1 :: x2 :: x3 :: x4 :: x5 :: x6 :: x7 :: x8 :: x9 :: x10 :: x11 :: x12 :: x13 :: x14 :: x15 :: x16 :: x17 :: x18 :: none :: σ := rfl
@[simp] theorem getV_20 {x0 x1 x2 x3 x4 x5 x6 x7 x8 x9 x10 x11 x12 x13 x14 x15 x16 x17 x18 x19 : Option D} {d : D} {σ : Env} {s : Store} : getV (x0 :: x1 :: x2 :: x3 :: x4 :: x5 :: x6 :: x7 :: x8 :: x9 :: x10 :: x11 :: x12 :: x13 :: x14 :: x15 :: x16 :: x17 :: x18 :: x19 :: some d :: σ) 20 s = .ok d s := rfl
@[simp] theorem setV_20 {x0 x1 x2 x3 x4 x5 x6 x7 x8 x9 x10 x11 x12 x13 x14 x15 x16 x17 x18 x19 : Option D} {x : Option D} {d : D} {σ : Env} : setV (x0 :: x1 :: x2 :: x3 :: x4 :: x5 :: x6 :: x7 :: x8 :: x9 :: x10 :: x11 :: x12 :: x13 :: x14 :: x15 :: x16 :: x17 :: x18 :: x19 :: x :: σ) 20 d = x0 :: x1 :: x2 :: x3 :: x4 :: x5 :: x6 :: x7 :: x8 :: x9 :: x10 :: x11 :: x12 :: x13 :: x14 :: x15 :: x16 :: x17 :: x18 :: x19 :: some d :: σ := rfl
@[simp] theorem wipV_20 {x0 x1 x2 x3 x4 x5 x6 x7 x8 x9 x10 x11 x12 x13 x14 x15 x16 x17 x18 x19 : Option D} {x : Option D} {σ : Env} : wipV (x0 :: x1 :: x2 :: x3 :: x4 :: x5 :: x6 :: x7 :: x8 :: x9 :: x10 :: x11 :: x12 :: x13 :: x14 :: x15 :: x16 :: x17 :: x18 :: x19 :: x :: σ) 20 = x0 :: x1 :: x2 :: x3 :: x4 :: x5 :: x6 :: x7 :: x8 :: x9 :: x10 :: x11 :: x12 :: x13 :: x14 :: x15 :: x16 :: x17 :: x18 :: x19 :: none :: σ := rfl
@[simp] theorem getV_21 {x0 x1 x2 x3 x4 x5 x6 x7 x8 x9 x10 x11 x12 x13 x14 x15 x16 x17 x18 x19 x20 : Option D} {d : D} {σ : Env} {s : Store} : getV (x0 :: x1 :: x2 :: x3 :: x4 :: x5 :: x6 :: x7 :: x8 :: x9 :: x10 :: x11 :: x12 :: x13 :: x14 :: x15 :: x16 :: x17 :: x18 :: x19 :: x20 :: some d :: σ) 21 s = .ok d s := rfl
@[simp] theorem setV_21 {x0 x1 x2 x3 x4 x5 x6 x7 x8 x9 x10 x11 x12 x13 x14 x15 x16 x17 x18 x19 x20 : Option D} {x : Option D} {d : D} {σ : Env} : setV (x0 :: x1 :: x2 :: x3 :: x4 :: x5 :: x6 :: x7 :: x8 :: x9 :: x10 :: x11 :: x12 :: x13 :: x14 :: x15 :: x16 :: x17 :: x18 :: x19 :: x20 :: x :: σ) 21 d = x0 :: x1 :: x2 :: x3 :: x4 :: x5 :: x6 :: x7 :: x8 :: x9 :: x10 :: x11 :: x12 :: x13 :: x14 :: x15 :: x16 :: x17 :: x18 :: x19 :: x20 :: some d :: σ := rfl
@[simp] theorem wipV_21 {x0 x1 x2 x3 x4 x5 x6 x7 x8 x9 x10 x11 x12 x13 x14 x15 x16 x17 x18 x19 x20 : Option D} {x : Option D} {σ : Env} : wipV (x0 :: x1 :: x2 :: x3 :: x4 :: x5 :: x6 :: x7 :: x8 :: x9 :: x10 :: x11 :: x12 :: x13 :: x14 :: x15 :: x16 :: x17 :: x18 :: x19 :: x20 :: x :: σ) 21 = x0 :: x1 :: x2 :: x3 :: x4 :: x5 :: x6 :: x7 :: x8 :: x9 :: x10 :: x11 :: x12 :: x13 :: x14 :: x15 :: x16 :: x17 :: x18 :: x19 :: x20 :: none :: σ := rfl
@[simp] theorem getV_22 {x0 x1 x2 x3 x4 x5 x6 x7 x8 x9 x10 x11 x12 x13 x14 x15 x16 x17 x18 x19 x20 x21 : Option D} {d : D} {σ : Env} {s : Store} : getV (x0 :: x1 :: x2 :: x3 :: x4 :: x5 :: x6 :: x7 :: x8 :: x9 :: x10 :: x11 :: x12 :: x13 :: x14 :: x15 :: x16 :: x17 :: x18 :: x19 :: x20 :: x21 :: some d :: σ) 22 s = .ok d s := rfl
@[simp] theorem setV_22 {x0 x1 x2 x3 x4 x5 x6 x7 x8 x9 x10 x11 x12 x13 x14 x15 x16 x17 x18 x19 x20 x21 : Option D} {x : Option D} {d : D} {σ : Env} : setV (x0 :: x1 :: x2 :: x3 :: x4 :: x5 :: x6 :: x7 :: x8 :: x9 :: x10 :: x11 :: x12 :: x13 :: x14 :: x15 :: x16 :: x17 :: x18 :: x19 :: x20 :: x21 :: x :: σ) 22 d = x0 :: x1 :: x2 :: x3 :: x4 :: x5 :: x6 :: x7 :: x8 :: x9 :: x10 :: x11 :: x12 :: x13 :: x14 :: x15 :: x16 :: x17 :: x18 :: x19 :: x20 :: x21 :: some d :: σ := rfl
@[simp] theorem wipV_22 {x0 x1 x2 x3 x4 x5 x6 x7 x8 x9 x10 x11 x12 x13 x14 x15 x16 x17 x18 x19 x20 x21 : Option D} {x : Option D} {σ : Env} : wipV (x0 :: x1 :: x2 :: x3 :: x4 :: x5 :: x6 :: x7 :: x8 :: x9 :: x10 :: x11 :: x12 :: x13 :: x14 :: x15 :: x16 :: x17 :: x18 :: x19 :: x20 :: x21 :: x :: σ) 22 = x0 :: x1 :: x2 :: x3 :: x4 :: x5 :: x6 :: x7 :: x8 :: x9 :: x10 :: x11 :: x12 :: x13 :: x14 :: x15 :: x16 :: x17 :: x18 :: x19 :: x20 :: x21 :: none :: σ := rfl
@[simp] theorem getV_23 {x0 x1 x2 x3 x4 x5 x6 x7 x8 x9 x10 x11 x12 x13 x14 x15 x16 x17 x18 x19 x20 x21 x22 : Option D} {d : D} {σ : Env} {s : Store} : getV (x0 :: x1 :: x2 :: x3 :: x4 :: x5 :: x6 :: x7 :: x8 :: x9 :: x10 :: x11 :: x12 :: x13 :: x14 :: x15 :: x16 :: x17 :: x18 :: x19 :: x20 :: x21 :: x22 :: some d :: σ) 23 s = .ok d s := rfl
@[simp] theorem setV_23 {x0 x1 x2 x3 x4 x5 x6 x7 x8 x9 x10 x11 x12 x13 x14 x15 x16 x17 x18 x19 x20 x21 x22 : Option D} {x : Option D} {d : D} {σ : Env} : setV (x0 :: x1 :: x2 :: x3 :: x4 :: x5 :: x6 :: x7 :: x8 :: x9 :: x10 :: x11 :: x12 :: x13 :: x14 :: x15 :: x16 :: x17 :: x18 :: x19 :: x20 :: x21 :: x22 :: x :: σ) 23 d = x0 :: x1 :: x2 :: x3 :: x4 :: x5 :: x6 :: x7 :: x8 :: x9 :: x10 :: x11 :: x12 :: x13 :: x14 :: x15 :: x16 :: x17 :: x18 :: x19 :: x20 :: x21 :: x22 :: some d :: σ := rfl
@[simp] theorem wipV_23 {x0 x1 x2 x3 x4 x5 x6 x7 x8 x9 x10 x11 x12 x13 x14 x15 x16 x17 x18 x19 x20 x21 x22 : Option D} {x : Option D} {σ : Env} : wipV (x0 :: x1 :: x2 :: x3 :: x4 :: x5 :: x6 :: x7 :: x8 :: x9 :: x10 :: x11 :: x12 :: x13 :: x14 :: x15 :: x16 :: x17 :: x18 :: x19 :: x20 :: x21 :: x22 :: x :: σ) 23 = x0 :: x1 :: x2 :: x3 :: x4 :: x5 :: x6 :: x7 :: x8 :: x9 :: x10 :: x11 :: x12 :: x13 :: x14 :: x15 :: x16 :: x17 :: x18 :: x19 :: x20 :: x21 :: x22 :: none :: σ := rfl
@[simp] theorem getV_24 {x0 x1 x2 x3 x4 x5 x6 x7 x8 x9 x10 x11 x12 x13 x14 x15 x16 x17 x18 x19 x20 x21 x22 x23 : Option D} {d : D} {σ : Env} {s : Store} : getV (x0 :: x1 :: x2 :: x3 :: x4 :: x5 :: x6 :: x7 :: x8 :: x9 :: x10 :: x11 :: x12 :: x13 :: x14 :: x15 :: x16 :: x17 :: x18 :: x19 :: x20 :: x21 :: x22 :: x23 :: some d :: σ) 24 s = .ok d s := rfl
@[simp] theorem setV_24 {x0 x1 x2 x3 x4 x5 x6 x7 x8 x9 x10 x11 x12 x13 x14 x15 x16 x17 x18 x19 x20 x21 x22 x23 : Option D} {x : Option D} {d : D} {σ : Env} : setV (x0 :: x1 :: x2 :: x3 :: x4 :: x5 :: x6 :: x7 :: x8 :: x9 :: x10 :: x11 :: x12 :: x13 :: x14 :: x15 :: x16 :: x17 :: x18 :: x19 :: x20 :: x21 :: x22 :: x23 :: x :: σ) 24 d = x0 :: x1 :: x2 :: x3 :: x4 :: x5 :: x6 :: x7 :: x8 :: x9 :: x10 :: x11 :: x12 :: x13 :: x14 :: x15 :: x16 :: x17 :: x18 :: x19 :: x20 :: x21 :: x22 :: x23 :: some d :: σ := rfl
@[simp] theorem wipV_24 {x0 x1 x2 x3 x4 x5 x6 x7 x8 x9 x10 x11 x12 x13 x14 x15 x16 x17 x18 x19 x20 x21 x22 x23 : Option D} {x : Option D} {σ : Env} : wipV (x0 :: x1 :: x2 :: x3 :: x4 :: x5 :: x6 :: x7 :: x8 :: x9 :: x10 :: x11 :: x12 :: x13 :: x14 :: x15 :: x16 :: x17 :: x18 :: x19 :: x20 :: x21 :: x22 :: x23 :: x :: σ) 24 = x0 :: x1 :: x2 :: x3 :: x4 :: x5 :: x6 :: x7 :: x8 :: x9 :: x10 :: x11 :: x12 :: x13 :: x14 :: x15 :: x16 :: x17 :: x18 :: x19 :: x20 :: x21 :: x22 :: x23 :: none :: σ := rfl
@[simp] theorem getV_25 {x0 x1 x2 x3 x4 x5 x6 x7 x8 x9 x10 x11 x12 x13 x14 x15 x16 x17 x18 x19 x20 x21 x22 x23 x24 : Option D} {d : D} {σ : Env} {s : Store} : getV (x0 :: x1 :: x2 :: x3 :: x4 :: x5 :: x6 :: x7 :: x8 :: x9 :: x10 :: x11 :: x12 :: x13 :: x14 :: x15 :: x16 :: x17 :: x18 :: x19 :: x20 :: x21 :: x22 :: x23 :: x24 :: some d :: σ) 25 s = .ok d s := rfl
@[simp] theorem setV_25 {x0 x1 x2 x3 x4 x5 x6 x7 x8 x9 x10 x11 x12 x13 x14 x15 x16 x17 x18 x19 x20 x21 x22 x23 x24 : Option D} {x : Option D} {d : D} {σ : Env} : setV (x0 :: x1 :: x2 :: x3 :: x4 :: x5 :: x6 :: x7 :: x8 :: x9 :: x10 :: x11 :: x12 :: x13 :: x14 :: x15 :: x16 :: x17 :: x18 :: x19 :: x20 :: x21 :: x22 :: x23 :: x24 :: x :: σ) 25 d = x0 :: x1 :: x2 :: x3 :: x4 :: x5 :: x6 :: x7 :: x8 :: x9 :: x10 :: x11 :: x12 :: x13 :: x14 :: x15 :: x16 :: x17 :: x18 :: x19 :: x20 :: x21 :: x22 :: x23 :: x24 :: some d :: σ := rfl
@[simp] theorem wipV_25 {x0 x1 x2 x3 x4 x5 x6 x7 x8 x9 x10 x11 x12 x13 x14 x15 x16 x17 x18 x19 x20 x21 x22 x23 x24 : Option D} {x : Option D} {σ : Env} : wipV (x0 :: x1 :: x2 :: x3 :: x4 :: x5 :: x6 :: x7 :: x8 :: x9 :: x10 :: x11 :: x12 :: x13 :: x14 :: x15 :: x16 :: x17 :: x18 :: x19 :: x20 :: x21 :: x22 :: x23 :: x24 :: x :: σ) 25 = x0 :: x1 :: x2 :: x3 :: x4 :: x5 :: x6 :: x7 :: x8 :: x9 :: x10 :: x11 :: x12 :: x13 :: x14 :: x15 :: x16 :: x17 :: x18 :: x19 :: x20 :: x21 :: x22 :: x23 :: x24 :: none :: σ := rfl
/-! ### expressions -/
section
variable (cf : CF) (b : Nat)
def kNeg (x : D) (s : Store) : Res D := match x with
  | .p (.int i) => .ok (.p (.int (-i))) s
  | _ => .bad
def kNot (x : D) (s : Store) : Res D := Res.and (truD x s) fun t s => .ok (.p (.bool (!t))) s
def kBin1 (o : Bop) (c : E) (σ : Env) (x : D) (s : Store) : Res D := Res.and (evE cf b c σ s) (binD o x)
def kCmp1 (o : Cop) (c : E) (σ : Env) (x : D) (s : Store) : Res D := Res.and (evE cf b c σ s) (cmpD o x)
def boolK (o' : Cop) (d : E) (σ : Env) (y : D) (r : D) (s : Store) : Res D := match r with
  | .p (.bool true) => Res.and (evE cf b d σ s) (cmpD o' y)
  | .p (.bool false) => .ok (.p (.bool false)) s
  | _ => .bad
def kCh2 (o o' : Cop) (d : E) (σ : Env) (x y : D) (s : Store) : Res D := Res.and (cmpD o x y s) (boolK cf b o' d σ y)
def kCh1 (o o' : Cop) (c d : E) (σ : Env) (x : D) (s : Store) : Res D := Res.and (evE cf b c σ s) (kCh2 cf b o o' d σ x)
def kIf (A B : E) (σ : Env) (t : Bool) (s : Store) : Res D := if t then evE cf b A σ s else evE cf b B σ s
def kAnd2 (c : E) (σ : Env) (x : D) (t : Bool) (s : Store) : Res D := if t then evE cf b c σ s else .ok x s
def kOr2 (c : E) (σ : Env) (x : D) (t : Bool) (s : Store) : Res D := if t then .ok x s else evE cf b c σ s
def kAnd1 (c : E) (σ : Env) (x : D) (s : Store) : Res D := Res.and (truD x s) (kAnd2 cf b c σ x)
def kOr1 (c : E) (σ : Env) (x : D) (s : Store) : Res D := Res.and (truD x s) (kOr2 cf b c σ x)
def kTupE (ps : List P) (s : Store) : Res D := .ok (.p (.tuple ps)) s
def kLstE (ps : List P) (s : Store) : Res D := .ok (.p (.list ps)) s
def kTup (xs : List D) (s : Store) : Res D := if xs.length ≤ line then Res.and (takes xs s) kTupE else .bad
def kLst (xs : List D) (s : Store) : Res D := if xs.length ≤ line then Res.and (takes xs s) kLstE else .bad
def kIdx1 (i : E) (σ : Env) (x : D) (s : Store) : Res D := Res.and (evE cf b i σ s) (idxD x)
def kRet (r : P) (s : Store) : Res D := .ok (.p r) s
def kSlc5 (l h : Option Int) (p : P) (s : Store) : Res D := Res.and (Res.ofO (slcP p l h) s) kRet
def kSlc4 (x : D) (l h : Option Int) (s : Store) : Res D := Res.and (view x s) (kSlc5 l h)
def kSlc3 (x : D) (l : Option Int) (h : Option D) (s : Store) : Res D := Res.and (partD h s) (kSlc4 x l)
def kSlc2 (hi : Eo) (σ : Env) (x : D) (l : Option Int) (s : Store) : Res D := Res.and (evEo cf b hi σ s) (kSlc3 x l)
def kSlc1 (hi : Eo) (σ : Env) (x : D) (l : Option D) (s : Store) : Res D := Res.and (partD l s) (kSlc2 cf b hi σ x)
def kSlc0 (lo hi : Eo) (σ : Env) (x : D) (s : Store) : Res D := Res.and (evEo cf b lo σ s) (kSlc1 cf b hi σ x)
def kRev1 (p : P) (s : Store) : Res D := Res.and (Res.ofO (revP p) s) kRet
def kRev (x : D) (s : Store) : Res D := Res.and (view x s) kRev1
def kCallk2 (f : Nat) (pm : List Nat) (xs ys : List D) (s : Store) : Res D := cf f (pm.filterMap fun i => (xs ++ ys)[i]?) s
def kCallk1 (f : Nat) (pm : List Nat) (ks : Es) (σ : Env) (xs : List D) (s : Store) : Res D := Res.and (evEs cf b ks σ s) (kCallk2 cf f pm xs)
def kMth2 (m : Mth) (es : Es) (σ : Env) (x : D) (u : Unit) (s : Store) : Res D := Res.and (evEs cf b es σ s) (mthD b m x)
def kMth1 (m : Mth) (es : Es) (σ : Env) (x : D) (s : Store) : Res D := Res.and (mthChk m x s) (kMth2 cf b m es σ x)
def kIsi1 (ts : List Ty) (p : P) (s : Store) : Res D := .ok (.p (.bool (ts.any (tyP p)))) s
def kIsi (ts : List Ty) (x : D) (s : Store) : Res D := if isScr x then .bad else Res.and (view x s) (kIsi1 ts)
def kLstI (xs : List P) (s : Store) : Res D := .ok (.p (.list xs)) s
def kTupI (xs : List P) (s : Store) : Res D := .ok (.p (.tuple xs)) s
def kOne (q : P) (s : Store) : Res (List P) := .ok [q] s
def kTake (y : D) (s : Store) : Res (List P) := Res.and (take y s) kOne
def kTurn2 (e : E) (σ : Env) (k : Bool) (s : Store) : Res (List P) := if k then Res.and (evE cf b e σ s) kTake else .ok [] s
def kTurn1 (e : E) (c : Eo) (σ : Env) (s : Store) : Res (List P) := Res.and (evC cf b c σ s) (kTurn2 cf b e σ)
/-- a turn of a comprehension -/
def turnE (σ : Env) (e : E) (t : Tg) (c : Eo) (x : P) : M (List P) := fun s => Res.calm (Res.and (evTg cf b t (wipeE σ (slotsT t)) (.p x) s) (kTurn1 cf b e c))
def kComp (e : E) (t : Tg) (c : Eo) (σ : Env) (xs : List P) (s : Store) : Res D := Res.and (compGo (turnE cf b σ e t c) xs [] s) kLstI
def kEs2 (x : D) (xs : List D) (s : Store) : Res (List D) := .ok (x :: xs) s
def kEs1 (es : Es) (σ : Env) (x : D) (s : Store) : Res (List D) := Res.and (evEs cf b es σ s) (kEs2 x)
def kSt3 (ys : List P) (xs : List D) (s : Store) : Res (List D) := .ok (ys.map D.p ++ xs) s
def kSt2 (es : Es) (σ : Env) (ys : List P) (s : Store) : Res (List D) := Res.and (evEs cf b es σ s) (kSt3 ys)
def seqP (p : P) : Option (List P) := match p with
  | .list ys => some ys
  | .tuple ys => some ys
  | _ => none
def kSt1 (es : Es) (σ : Env) (p : P) (s : Store) : Res (List D) := Res.and (Res.ofO (seqP p) s) (kSt2 cf b es σ)
def kSt0 (es : Es) (σ : Env) (x : D) (s : Store) : Res (List D) := Res.and (view x s) (kSt1 cf b es σ)
def kSome (x : D) (s : Store) : Res (Option D) := .ok (some x) s
def walkD (x : D) (s : Store) : Res (List P) := match x with
  | .loc _ => .bad
  | _ => Res.and (view x s) fun p s => Res.ofO (items p) s
def rng1D (x : D) (s : Store) : Res (List P) := match x with
  | .p (.int j) => if rngOk j then .ok (rngI 0 j.toNat) s else .bad
  | _ => .bad
def rng2D (x y : D) (s : Store) : Res (List P) := match x, y with
  | .p (.int i), .p (.int j) => if rngOk i && rngOk j then .ok (rngI i (j - i).toNat) s else .bad
  | _, _ => .bad
def kRng2 (c : E) (σ : Env) (x : D) (s : Store) : Res (List P) := Res.and (evE cf b c σ s) (rng2D x)
def enumD (x : D) (s : Store) : Res (List P) := match x with
  | .p (.list xs) => .ok (enumL 0 xs) s
  | .p (.tuple xs) => .ok (enumL 0 xs) s
  | _ => .bad
def zipD (x y : D) (s : Store) : Res (List P) := match x, y with
  | .p (.list xs), .p (.list ys) => .ok (zipL xs ys) s
  | .p (.tuple xs), .p (.tuple ys) => .ok (zipL xs ys) s
  | .p (.tuple xs), .p (.list ys) => .ok (zipL xs ys) s
  | _, _ => .bad
def kZip (c : E) (σ : Env) (x : D) (s : Store) : Res (List P) := Res.and (evE cf b c σ s) (zipD x)
def revI (x : D) (s : Store) : Res (List P) := match x with
  | .p (.list xs) => .ok xs.reverse s
  | .p (.tuple xs) => .ok xs.reverse s
  | _ => .bad
def kLstG (xs : List P) (s : Store) : Res D := if xs.length ≤ 16777216 then .ok (.p (.list xs)) s else .bad
def kTupG (xs : List P) (s : Store) : Res D := if xs.length ≤ 16777216 then .ok (.p (.tuple xs)) s else .bad
def kStar (i : Nat) (us : Tgs) (d : D) (ds : List D) (σ : Env) (s : Store) : Res Env := evTgs cf b us (setV σ i d) ds s
def kTgs (ts : Tgs) (ds : List D) (σ : Env) (s : Store) : Res Env := evTgs cf b ts σ ds s
variable (σ : Env) (s : Store)
@[simp] theorem ev_var (i : Nat) : evE cf b (.var i) σ s = getV σ i s := by unfold getV; show (match σ[i]? with | some (some d) => M.ret d | _ => M.bad) s = _; split <;> simp_all <;> rfl
@[simp] theorem ev_lit (d : P) : evE cf b (.lit d) σ s = .ok (.p d) s := rfl
@[simp] theorem ev_neg (a : E) : evE cf b (.neg a) σ s = Res.and (evE cf b a σ s) kNeg := by
  show Res.and (evE cf b a σ s) _ = _
  congr 1
  funext x s
  cases x with
  | p d => cases d <;> rfl
  | _ => rfl
@[simp] theorem ev_not (a : E) : evE cf b (.not a) σ s = Res.and (evE cf b a σ s) kNot := rfl
@[simp] theorem ev_bin (o : Bop) (a c : E) : evE cf b (.bin o a c) σ s = Res.and (evE cf b a σ s) (kBin1 cf b o c σ) := rfl
@[simp] theorem ev_cmp (o : Cop) (a c : E) : evE cf b (.cmp o a c) σ s = Res.and (evE cf b a σ s) (kCmp1 cf b o c σ) := rfl
@[simp] theorem ev_chain (o o' : Cop) (a c d : E) : evE cf b (.chain o o' a c d) σ s = Res.and (evE cf b a σ s) (kCh1 cf b o o' c d σ) := by
  show Res.and (evE cf b a σ s) _ = _
  congr 1
  funext x s
  unfold kCh1
  show Res.and (evE cf b c σ s) _ = _
  congr 1
  funext y s
  unfold kCh2
  show Res.and (cmpD o x y s) _ = _
  congr 1
  funext r s
  cases r with
  | p d => cases d with
    | bool t => cases t <;> rfl
    | _ => rfl
  | _ => rfl
@[simp] theorem ev_and (a c : E) : evE cf b (.and a c) σ s = Res.and (evE cf b a σ s) (kAnd1 cf b c σ) := by
  show Res.and (evE cf b a σ s) _ = _
  congr 1
  funext x s
  show Res.and (truD x s) _ = Res.and (truD x s) _
  congr 1
  funext t s
  cases t <;> rfl
@[simp] theorem ev_or (a c : E) : evE cf b (.or a c) σ s = Res.and (evE cf b a σ s) (kOr1 cf b c σ) := by
  show Res.and (evE cf b a σ s) _ = _
  congr 1
  funext x s
  show Res.and (truD x s) _ = Res.and (truD x s) _
  congr 1
  funext t s
  cases t <;> rfl
@[simp] theorem ev_ite (c x y : E) : evE cf b (.ite c x y) σ s = Res.and (evE cf b c σ s) fun z s => Res.and (truD z s) (kIf cf b x y σ) := by
  show Res.and (evE cf b c σ s) _ = _
  congr 1
  funext z s
  show Res.and (truD z s) _ = _
  congr 1
  funext t s
  cases t <;> rfl
@[simp] theorem ev_tup (es : Es) : evE cf b (.tup es) σ s = Res.and (evEs cf b es σ s) kTup := by
  show Res.and (evEs cf b es σ s) _ = _
  congr 1
  funext xs s
  unfold kTup
  by_cases h : xs.length ≤ line
  · rw [if_pos h, if_pos (decide_eq_true h)]; rfl
  · rw [if_neg h, if_neg (by simp [h])]; rfl
@[simp] theorem ev_lst (es : Es) : evE cf b (.lst es) σ s = Res.and (evEs cf b es σ s) kLst := by
  show Res.and (evEs cf b es σ s) _ = _
  congr 1
  funext xs s
  unfold kLst
  by_cases h : xs.length ≤ line
  · rw [if_pos h, if_pos (decide_eq_true h)]; rfl
  · rw [if_neg h, if_neg (by simp [h])]; rfl
@[simp] theorem ev_idx (a i : E) : evE cf b (.idx a i) σ s = Res.and (evE cf b a σ s) (kIdx1 cf b i σ) := rfl
@[simp] theorem ev_slc (a : E) (lo hi : Eo) : evE cf b (.slc a lo hi) σ s = Res.and (evE cf b a σ s) (kSlc0 cf b lo hi σ) := by
  show Res.and (evE cf b a σ s) _ = _
  congr 1
  funext x s
  show Res.and (evEo cf b lo σ s) _ = Res.and (evEo cf b lo σ s) _
  congr 1
  funext l s
  show Res.and (partD l s) _ = Res.and (partD l s) _
  congr 1
  funext l s
  show Res.and (evEo cf b hi σ s) _ = Res.and (evEo cf b hi σ s) _
  congr 1
  funext h s
  show Res.and (partD h s) _ = Res.and (partD h s) _
  congr 1
  funext h s
  show Res.and (view x s) _ = Res.and (view x s) _
  congr 1
  funext p s
  show Res.and (M.opt (slcP p l h) s) _ = _
  rw [opt_app]
  rfl
@[simp] theorem ev_rev (a : E) : evE cf b (.rev a) σ s = Res.and (evE cf b a σ s) kRev := by
  show Res.and (evE cf b a σ s) _ = _
  congr 1
  funext x s
  show Res.and (view x s) _ = Res.and (view x s) _
  congr 1
  funext p s
  show Res.and (M.opt (revP p) s) _ = _
  rw [opt_app]
  rfl
@[simp] theorem ev_call (f : Nat) (es : Es) : evE cf b (.call f es) σ s = Res.and (evEs cf b es σ s) (cf f) := rfl
@[simp] theorem ev_callk (f : Nat) (pm : List Nat) (es ks : Es) : evE cf b (.callk f pm es ks) σ s = Res.and (evEs cf b es σ s) (kCallk1 cf b f pm ks σ) := rfl
@[simp] theorem ev_blt (o : Blt) (es : Es) : evE cf b (.blt o es) σ s = Res.and (evEs cf b es σ s) (bltD o) := rfl
@[simp] theorem ev_mth (m : Mth) (o : E) (es : Es) : evE cf b (.mth m o es) σ s = Res.and (evE cf b o σ s) (kMth1 cf b m es σ) := rfl
@[simp] theorem ev_isi (a : E) (ts : List Ty) : evE cf b (.isi a ts) σ s = Res.and (evE cf b a σ s) (kIsi ts) := by
  show Res.and (evE cf b a σ s) _ = _
  congr 1
  funext x s
  unfold kIsi
  cases isScr x <;> rfl
@[simp] theorem ev_lstI (it : I) : evE cf b (.lstI it) σ s = Res.and (evI cf b it σ s) kLstG := by
  show Res.and (Res.and (evI cf b it σ s) _) _ = _
  rw [and_and]
  congr 1
  funext xs s
  unfold kLstG
  by_cases h : xs.length ≤ line
  · rw [if_pos (show xs.length ≤ 16777216 from h), if_pos (decide_eq_true h)]; rfl
  · rw [if_neg (show ¬ xs.length ≤ 16777216 from h), if_neg (by simp [h])]; rfl
@[simp] theorem ev_tupI (it : I) : evE cf b (.tupI it) σ s = Res.and (evI cf b it σ s) kTupG := by
  show Res.and (Res.and (evI cf b it σ s) _) _ = _
  rw [and_and]
  congr 1
  funext xs s
  unfold kTupG
  by_cases h : xs.length ≤ line
  · rw [if_pos (show xs.length ≤ 16777216 from h), if_pos (decide_eq_true h)]; rfl
  · rw [if_neg (show ¬ xs.length ≤ 16777216 from h), if_neg (by simp [h])]; rfl
@[simp] theorem ev_opn (e : E) : evE cf b (.opn e) σ s = Res.and (evE cf b e σ s) opnD := rfl
@[simp] theorem evt_star (ts us : Tgs) (i : Nat) (xs : List P) : evTg cf b (.star ts i us) σ (.p (.tuple xs)) s = if lenTs ts + lenTs us ≤ xs.length then Res.and (evTgs cf b ts σ ((xs.take (lenTs ts)).map D.p) s) (kStar cf b i us (.p (.list ((xs.drop (lenTs ts)).take (xs.length - lenTs ts - lenTs us)))) ((xs.drop (xs.length - lenTs us)).map D.p)) else .bad := by
  show (if lenTs ts + lenTs us ≤ xs.length then
        (evTgs cf b ts σ ((xs.take (lenTs ts)).map D.p)).bnd fun σ1 =>
        evTgs cf b us (σ1.set i (some (.p (.list ((xs.drop (lenTs ts)).take (xs.length - lenTs ts - lenTs us)))))) ((xs.drop (xs.length - lenTs us)).map D.p) else M.bad) s = _
  split <;> rfl
theorem turnE_eq (e : E) (t : Tg) (c : Eo) (x : P) : turnE cf b σ e t c x = M.calm ((evTg cf b t (wipeE σ (slotsT t)) (.p x)).bnd fun σ' => (evC cf b c σ').bnd fun k => if k then (evE cf b e σ').bnd fun y => (take y).bnd fun q => M.ret [q] else M.ret []) := by
  funext s
  show _ = Res.calm (Res.and (evTg cf b t (wipeE σ (slotsT t)) (.p x) s) _)
  unfold turnE
  congr 2
  funext σ' s
  show Res.and (evC cf b c σ' s) _ = Res.and (evC cf b c σ' s) _
  congr 1
  funext k s
  cases k <;> rfl
@[simp] theorem ev_comp (e : E) (t : Tg) (it : I) (c : Eo) : evE cf b (.comp e t it c) σ s = Res.and (evI cf b it σ s) (kComp cf b e t c σ) := by
  show Res.and (evI cf b it σ s) _ = _
  congr 1
  funext xs s
  unfold kComp
  rw [show turnE cf b σ e t c = fun x => M.calm ((evTg cf b t (wipeE σ (slotsT t)) (.p x)).bnd fun σ' => (evC cf b c σ').bnd fun k => if k then (evE cf b e σ').bnd fun y => (take y).bnd fun q => M.ret [q] else M.ret []) from funext fun x => turnE_eq cf b σ e t c x]
  rfl
@[simp] theorem evs_nil : evEs cf b .nil σ s = .ok [] s := rfl
@[simp] theorem evs_cons (e : E) (es : Es) : evEs cf b (.cons e es) σ s = Res.and (evE cf b e σ s) (kEs1 cf b es σ) := rfl
@[simp] theorem evs_star (e : E) (es : Es) : evEs cf b (.star e es) σ s = Res.and (evE cf b e σ s) (kSt0 cf b es σ) := by
  show Res.and (evE cf b e σ s) _ = _
  congr 1
  funext x s
  show Res.and (view x s) _ = Res.and (view x s) _
  congr 1
  funext p s
  show Res.and (M.opt _ s) _ = _
  rw [opt_app]
  cases p <;> rfl
@[simp] theorem evo_none : evEo cf b .none σ s = .ok none s := rfl
@[simp] theorem evo_some (e : E) : evEo cf b (.some e) σ s = Res.and (evE cf b e σ s) kSome := rfl
@[simp] theorem evc_none : evC cf b .none σ s = .ok true s := rfl
@[simp] theorem evc_some (e : E) : evC cf b (.some e) σ s = Res.and (evE cf b e σ s) truD := rfl
@[simp] theorem evi_e (a : E) : evI cf b (.e a) σ s = Res.and (evE cf b a σ s) walkD := by
  show Res.and (evE cf b a σ s) _ = _
  congr 1
  funext x s
  cases x with
  | loc _ => rfl
  | p d => exact opt_app (items d) s
  | scr d => exact opt_app (items (.list (d.map PyData.int))) s
  | _ => rfl
@[simp] theorem evi_rng1 (a : E) : evI cf b (.rng1 a) σ s = Res.and (evE cf b a σ s) rng1D := by
  show Res.and (evE cf b a σ s) _ = _
  congr 1
  funext x s
  cases x with
  | p d => cases d <;> first | rfl | exact ite_app _ _ _ _
  | _ => rfl
@[simp] theorem evi_rng2 (a c : E) : evI cf b (.rng2 a c) σ s = Res.and (evE cf b a σ s) (kRng2 cf b c σ) := by
  show Res.and (evE cf b a σ s) _ = _
  congr 1
  funext x s
  show Res.and (evE cf b c σ s) _ = Res.and (evE cf b c σ s) _
  congr 1
  funext y s
  cases x with
  | p d => cases y with
    | p d' => cases d <;> cases d' <;> first | rfl | exact ite_app _ _ _ _
    | _ => cases d <;> rfl
  | _ => cases y <;> rfl
@[simp] theorem evi_enum (a : E) : evI cf b (.enum a) σ s = Res.and (evE cf b a σ s) enumD := by
  show Res.and (evE cf b a σ s) _ = _
  congr 1
  funext x s
  cases x with
  | p d => cases d <;> rfl
  | _ => rfl
@[simp] theorem evi_zip (a c : E) : evI cf b (.zip a c) σ s = Res.and (evE cf b a σ s) (kZip cf b c σ) := by
  show Res.and (evE cf b a σ s) _ = _
  congr 1
  funext x s
  show Res.and (evE cf b c σ s) _ = Res.and (evE cf b c σ s) _
  congr 1
  funext y s
  cases x with
  | p d => cases y with
    | p d' => cases d <;> cases d' <;> rfl
    | _ => cases d <;> rfl
  | _ => cases y <;> rfl
@[simp] theorem evi_rev (a : E) : evI cf b (.rev a) σ s = Res.and (evE cf b a σ s) revI := by
  show Res.and (evE cf b a σ s) _ = _
  congr 1
  funext x s
  cases x with
  | p d => cases d <;> rfl
  | _ => rfl
@[simp] theorem evt_name (i : Nat) (d : D) : evTg cf b (.name i) σ d s = .ok (setV σ i d) s := rfl
@[simp] theorem evt_tup (ts : Tgs) (xs : List P) : evTg cf b (.tup ts) σ (.p (.tuple xs)) s = if xs.length = lenTs ts then evTgs cf b ts σ (xs.map D.p) s else .bad := by
  show (if xs.length = lenTs ts then evTgs cf b ts σ (xs.map D.p) else M.bad) s = _
  split <;> rfl
@[simp] theorem evt_tupL (ts : Tgs) (xs : List P) : evTg cf b (.tup ts) σ (.p (.list xs)) s = if xs.length = lenTs ts then evTgs cf b ts σ (xs.map D.p) s else .bad := by
  show (if xs.length = lenTs ts then evTgs cf b ts σ (xs.map D.p) else M.bad) s = _
  split <;> rfl
@[simp] theorem evts_nil (ds : List D) : evTgs cf b .nil σ ds s = .ok σ s := rfl
@[simp] theorem evts_cons (t : Tg) (ts : Tgs) (d : D) (ds : List D) : evTgs cf b (.cons t ts) σ (d :: ds) s = Res.and (evTg cf b t σ d s) (kTgs cf b ts ds) := rfl
@[simp] theorem kTgs_app (ts : Tgs) (ds : List D) : kTgs cf b ts ds σ s = evTgs cf b ts σ ds s := rfl
@[simp] theorem slots_name (i : Nat) : slotsT (.name i) = [i] := rfl
@[simp] theorem slots_tup (ts : Tgs) : slotsT (.tup ts) = slotsTs ts := rfl
@[simp] theorem slots_nil : slotsTs .nil = [] := rfl
@[simp] theorem slots_cons (t : Tg) (ts : Tgs) : slotsTs (.cons t ts) = slotsT t ++ slotsTs ts := rfl
end
/-! ### statements -/
section
variable (cf : CF) (b : Nat)
def kAsgN (i : Nat) (σ : Env) (d : D) (s : Store) : SR := .nx (setV σ i d) s
def kNx (σ : Env) (s : Store) : SR := .nx σ s
def kAsg (t : Tg) (σ : Env) (d : D) (s : Store) : SR := Res.st σ (Res.calm (evTg cf b t σ d s)) kNx
def kAsgL (i : Nat) (σ : Env) (xs : List D) (s : Store) : SR := .nx (setV σ i (.loc s.length)) (s ++ [.lst xs])
def kPar (is : List Nat) (σ : Env) (ds : List D) (s : Store) : SR := if ds.length = is.length then .nx (setAll σ is ds) s else .bad
def kAug2 (i : Nat) (σ : Env) (z : D) (s : Store) : SR := .nx (setV σ i z) s
def kAug (i : Nat) (o : Bop) (σ : Env) (x y : D) (s : Store) : SR := Res.st σ (augD o x y s) (kAug2 i σ)
def kExpr (σ : Env) (d : D) (s : Store) : SR := .nx σ s
def kRt (d : D) (s : Store) : SR := .rt d s
def kRtL (xs : List D) (s : Store) : SR := .rt (.loc s.length) (s ++ [.lst xs])
def kIfe (x y : Ss) (σ : Env) (t : Bool) (s : Store) : SR := if t then evSs cf b x σ s else evSs cf b y σ s
/-- a loop's turn -/
def turnS (t : Tg) (x : Ss) (p : P) (σ : Env) (s : Store) : SR := Res.st σ (Res.calm (evTg cf b t σ (.p p) s)) (evSs cf b x)
def kFor (t : Tg) (x : Ss) (σ : Env) (xs : List P) (s : Store) : SR := forGo (turnS cf b t x) xs σ s
def kCnd (c : E) (σ : Env) : M Bool := fun s => Res.and (evE cf b c σ s) truD
def kFrz (i : Nat) (σ : Env) (p : P) (s : Store) : SR := .nx (setV σ i (.p p)) s
def kList (x : D) (s : Store) : Res (List D) := match x with
  | .p (.list ps) => .ok (ps.map D.p) s
  | _ => .bad
def kLen (xs : List D) (s : Store) : Res (List D) := if xs.length ≤ line then .ok xs s else .bad
def kMapD (xs : List P) (s : Store) : Res (List D) := .ok (xs.map D.p) s
variable (σ : Env) (s : Store)
@[simp] theorem evl_lst (es : Es) : evL cf b (.lst es) σ s = Res.and (evEs cf b es σ s) kLen := by
  show Res.and (evEs cf b es σ s) _ = _
  congr 1
  funext xs s
  unfold kLen
  by_cases h : xs.length ≤ line
  · rw [if_pos h, if_pos (decide_eq_true h)]; rfl
  · rw [if_neg h, if_neg (by simp [h])]; rfl
theorem kList_eq : (fun x => (match x with
    | D.p (.list ps) => M.ret (ps.map D.p)
    | _ => M.bad : M (List D))) = kList := by
  funext x s
  cases x with
  | p d => cases d <;> rfl
  | _ => rfl
@[simp] theorem evl_comp (e : E) (t : Tg) (it : I) (c : Eo) : evL cf b (.comp e t it c) σ s = Res.and (evE cf b (.comp e t it c) σ s) kList := by
  rw [← kList_eq]; rfl
@[simp] theorem evl_lstI (it : I) : evL cf b (.lstI it) σ s = Res.and (evI cf b it σ s) kMapD := rfl
@[simp] theorem evl_list (es : Es) : evL cf b (.blt .list es) σ s = Res.and (evE cf b (.blt .list es) σ s) kList := by
  rw [← kList_eq]; rfl
@[simp] theorem evl_sorted (es : Es) : evL cf b (.blt .sorted es) σ s = Res.and (evE cf b (.blt .sorted es) σ s) kList := by
  rw [← kList_eq]; rfl
@[simp] theorem evss_nil : evSs cf b .nil σ s = .nx σ s := rfl
@[simp] theorem evss_cons (x : S) (xs : Ss) : evSs cf b (.cons x xs) σ s = (evS cf b x σ s).nxt (evSs cf b xs) := rfl
@[simp] theorem es_ret (e : E) : evS cf b (.ret e) σ s = Res.st σ (evE cf b e σ s) kRt := rfl
@[simp] theorem es_retL (e : E) : evS cf b (.retL e) σ s = Res.st σ (evL cf b e σ s) kRtL := rfl
@[simp] theorem es_retN : evS cf b .retN σ s = .rt (.p .none) s := rfl
@[simp] theorem es_pass : evS cf b .pass σ s = .nx σ s := rfl
@[simp] theorem es_asg (i : Nat) (e : E) : evS cf b (.asg (.name i) e) σ s = Res.st σ (evE cf b e σ s) (kAsgN i σ) := rfl
@[simp] theorem es_asgT (ts : Tgs) (e : E) : evS cf b (.asg (.tup ts) e) σ s = Res.st σ (evE cf b e σ s) (kAsg cf b (.tup ts) σ) := rfl
@[simp] theorem es_asgS (o i : E) (e : E) : evS cf b (.asg (.sub o i) e) σ s = Res.st σ (evE cf b e σ s) (kAsg cf b (.sub o i) σ) := rfl
@[simp] theorem es_asgR (ts : Tgs) (i : Nat) (us : Tgs) (e : E) : evS cf b (.asg (.star ts i us) e) σ s = Res.st σ (evE cf b e σ s) (kAsg cf b (.star ts i us) σ) := rfl
@[simp] theorem es_asgL (i : Nat) (e : E) : evS cf b (.asgL i e) σ s = Res.st σ (evL cf b e σ s) (kAsgL i σ) := rfl
@[simp] theorem es_par (is : List Nat) (es : Es) : evS cf b (.par is es) σ s = Res.st σ (evEs cf b es σ s) (kPar is σ) := rfl
@[simp] theorem es_aug (i : Nat) (o : Bop) (e : E) : evS cf b (.aug i o e) σ s = Res.st σ (getV σ i s) fun x s => Res.st σ (evE cf b e σ s) (kAug i o σ x) := by
  show (match σ[i]? with | some (some x) => _ | _ => SR.bad) = _
  unfold getV
  split <;> rfl
@[simp] theorem es_expr (e : E) : evS cf b (.expr e) σ s = Res.st σ (evE cf b e σ s) (kExpr σ) := rfl
@[simp] theorem es_for (t : Tg) (it : I) (x : Ss) : evS cf b (.for t it x) σ s = Res.st σ (evI cf b it σ s) (kFor cf b t x σ) := rfl
@[simp] theorem es_whl (n : Nat) (c : E) (x : Ss) : evS cf b (.whl n c x) σ s = whlGo (kCnd cf b c) (evSs cf b x) n σ s := rfl
@[simp] theorem es_ife (c : E) (x y : Ss) : evS cf b (.ife c x y) σ s = Res.st σ (Res.and (evE cf b c σ s) truD) (kIfe cf b x y σ) := by
  rfl
@[simp] theorem es_frz (i : Nat) : evS cf b (.frz i) σ s = Res.st σ (getV σ i s) fun d s => Res.st σ (take d s) (kFrz i σ) := by
  show (match σ[i]? with | some (some x) => _ | _ => SR.bad) = _
  unfold getV
  split <;> rfl
end
/-! ### what is to be done next -/
section
variable (cf : CF) (b : Nat) (σ : Env) (s : Store)
@[simp] theorem kNeg_i (i : Int) : kNeg (.p (.int i)) s = .ok (.p (.int (-i))) s := rfl
@[simp] theorem kNot_app (x : D) : kNot x s = Res.and (truD x s) fun t s => .ok (.p (.bool (!t))) s := rfl
@[simp] theorem kBin1_app (o : Bop) (c : E) (x : D) : kBin1 cf b o c σ x s = Res.and (evE cf b c σ s) (binD o x) := rfl
@[simp] theorem kCmp1_app (o : Cop) (c : E) (x : D) : kCmp1 cf b o c σ x s = Res.and (evE cf b c σ s) (cmpD o x) := rfl
@[simp] theorem boolK_app (o' : Cop) (d : E) (y : D) (t : Bool) : boolK cf b o' d σ y (.p (.bool t)) s = if t then Res.and (evE cf b d σ s) (cmpD o' y) else .ok (.p (.bool false)) s := by cases t <;> rfl
@[simp] theorem kCh2_app (o o' : Cop) (d : E) (x y : D) : kCh2 cf b o o' d σ x y s = Res.and (cmpD o x y s) (boolK cf b o' d σ y) := rfl
@[simp] theorem kCh1_app (o o' : Cop) (c d : E) (x : D) : kCh1 cf b o o' c d σ x s = Res.and (evE cf b c σ s) (kCh2 cf b o o' d σ x) := rfl
@[simp] theorem kIf_app (A B : E) (t : Bool) : kIf cf b A B σ t s = if t then evE cf b A σ s else evE cf b B σ s := rfl
@[simp] theorem kAnd2_app (c : E) (x : D) (t : Bool) : kAnd2 cf b c σ x t s = if t then evE cf b c σ s else .ok x s := rfl
@[simp] theorem kOr2_app (c : E) (x : D) (t : Bool) : kOr2 cf b c σ x t s = if t then .ok x s else evE cf b c σ s := rfl
@[simp] theorem kAnd1_app (c : E) (x : D) : kAnd1 cf b c σ x s = Res.and (truD x s) (kAnd2 cf b c σ x) := rfl
@[simp] theorem kOr1_app (c : E) (x : D) : kOr1 cf b c σ x s = Res.and (truD x s) (kOr2 cf b c σ x) := rfl
@[simp] theorem kTupE_app (ps : List P) : kTupE ps s = .ok (.p (.tuple ps)) s := rfl
@[simp] theorem kLstE_app (ps : List P) : kLstE ps s = .ok (.p (.list ps)) s := rfl
@[simp] theorem kTup_app (xs : List D) : kTup xs s = if xs.length ≤ 16777216 then Res.and (takes xs s) kTupE else .bad := rfl
@[simp] theorem kLst_app (xs : List D) : kLst xs s = if xs.length ≤ 16777216 then Res.and (takes xs s) kLstE else .bad := rfl
@[simp] theorem kIdx1_app (i : E) (x : D) : kIdx1 cf b i σ x s = Res.and (evE cf b i σ s) (idxD x) := rfl
@[simp] theorem kRet_app (r : P) : kRet r s = .ok (.p r) s := rfl
@[simp] theorem kSlc5_app (l h : Option Int) (p : P) : kSlc5 l h p s = Res.and (Res.ofO (slcP p l h) s) kRet := rfl
@[simp] theorem kSlc4_app (x : D) (l h : Option Int) : kSlc4 x l h s = Res.and (view x s) (kSlc5 l h) := rfl
@[simp] theorem kSlc3_app (x : D) (l : Option Int) (h : Option D) : kSlc3 x l h s = Res.and (partD h s) (kSlc4 x l) := rfl
@[simp] theorem kSlc2_app (hi : Eo) (x : D) (l : Option Int) : kSlc2 cf b hi σ x l s = Res.and (evEo cf b hi σ s) (kSlc3 x l) := rfl
@[simp] theorem kSlc1_app (hi : Eo) (x : D) (l : Option D) : kSlc1 cf b hi σ x l s = Res.and (partD l s) (kSlc2 cf b hi σ x) := rfl
@[simp] theorem kSlc0_app (lo hi : Eo) (x : D) : kSlc0 cf b lo hi σ x s = Res.and (evEo cf b lo σ s) (kSlc1 cf b hi σ x) := rfl
@[simp] theorem kRev1_app (p : P) : kRev1 p s = Res.and (Res.ofO (revP p) s) kRet := rfl
@[simp] theorem kRev_app (x : D) : kRev x s = Res.and (view x s) kRev1 := rfl
@[simp] theorem kCallk2_app (f : Nat) (pm : List Nat) (xs ys : List D) : kCallk2 cf f pm xs ys s = cf f (pm.filterMap fun i => (xs ++ ys)[i]?) s := rfl
@[simp] theorem kCallk1_app (f : Nat) (pm : List Nat) (ks : Es) (xs : List D) : kCallk1 cf b f pm ks σ xs s = Res.and (evEs cf b ks σ s) (kCallk2 cf f pm xs) := rfl
@[simp] theorem kMth2_app (m : Mth) (es : Es) (x : D) (u : Unit) : kMth2 cf b m es σ x u s = Res.and (evEs cf b es σ s) (mthD b m x) := rfl
@[simp] theorem kMth1_app (m : Mth) (es : Es) (x : D) : kMth1 cf b m es σ x s = Res.and (mthChk m x s) (kMth2 cf b m es σ x) := rfl
@[simp] theorem kIsi1_app (ts : List Ty) (p : P) : kIsi1 ts p s = .ok (.p (.bool (ts.any (tyP p)))) s := rfl
@[simp] theorem kIsi_p (ts : List Ty) (p : P) : kIsi ts (.p p) s = .ok (.p (.bool (ts.any (tyP p)))) s := rfl
@[simp] theorem kLstI_app (xs : List P) : kLstI xs s = .ok (.p (.list xs)) s := rfl
@[simp] theorem kTupI_app (xs : List P) : kTupI xs s = .ok (.p (.tuple xs)) s := rfl
@[simp] theorem kLstG_app (xs : List P) : kLstG xs s = if xs.length ≤ 16777216 then .ok (.p (.list xs)) s else .bad := rfl
@[simp] theorem kTupG_app (xs : List P) : kTupG xs s = if xs.length ≤ 16777216 then .ok (.p (.tuple xs)) s else .bad := rfl
@[simp] theorem kStar_app (i : Nat) (us : Tgs) (d : D) (ds : List D) : kStar cf b i us d ds σ s = evTgs cf b us (setV σ i d) ds s := rfl
@[simp] theorem opnD_l (ps : List P) : opnD (.p (.list ps)) s = .ok (.loc s.length) (s ++ [.lst (ps.map D.p)]) := rfl
@[simp] theorem kOne_app (q : P) : kOne q s = .ok [q] s := rfl
@[simp] theorem kTake_app (y : D) : kTake y s = Res.and (take y s) kOne := rfl
@[simp] theorem kTurn2_app (e : E) (k : Bool) : kTurn2 cf b e σ k s = if k then Res.and (evE cf b e σ s) kTake else .ok [] s := rfl
@[simp] theorem kTurn1_app (e : E) (c : Eo) : kTurn1 cf b e c σ s = Res.and (evC cf b c σ s) (kTurn2 cf b e σ) := rfl
theorem turnE_app (e : E) (t : Tg) (c : Eo) (x : P) : turnE cf b σ e t c x s = Res.calm (Res.and (evTg cf b t (wipeE σ (slotsT t)) (.p x) s) (kTurn1 cf b e c)) := rfl
@[simp] theorem kComp_app (e : E) (t : Tg) (c : Eo) (xs : List P) : kComp cf b e t c σ xs s = Res.and (compGo (turnE cf b σ e t c) xs [] s) kLstI := rfl
@[simp] theorem kEs2_app (x : D) (xs : List D) : kEs2 x xs s = .ok (x :: xs) s := rfl
@[simp] theorem kEs1_app (es : Es) (x : D) : kEs1 cf b es σ x s = Res.and (evEs cf b es σ s) (kEs2 x) := rfl
@[simp] theorem kSt3_app (ys : List P) (xs : List D) : kSt3 ys xs s = .ok (ys.map D.p ++ xs) s := rfl
@[simp] theorem kSt2_app (es : Es) (ys : List P) : kSt2 cf b es σ ys s = Res.and (evEs cf b es σ s) (kSt3 ys) := rfl
@[simp] theorem kSt1_app (es : Es) (p : P) : kSt1 cf b es σ p s = Res.and (Res.ofO (seqP p) s) (kSt2 cf b es σ) := rfl
@[simp] theorem kSt0_app (es : Es) (x : D) : kSt0 cf b es σ x s = Res.and (view x s) (kSt1 cf b es σ) := rfl
@[simp] theorem seqP_l (ys : List P) : seqP (.list ys) = some ys := rfl
@[simp] theorem seqP_t (ys : List P) : seqP (.tuple ys) = some ys := rfl
@[simp] theorem kSome_app (x : D) : kSome x s = .ok (some x) s := rfl
@[simp] theorem walkD_p (p : P) : walkD (.p p) s = Res.ofO (items p) s := rfl
@[simp] theorem walkD_s (ns : List Int) : walkD (.scr ns) s = .ok (ns.map PyData.int) s := rfl
@[simp] theorem rng1D_i (j : Int) : rng1D (.p (.int j)) s = if rngOk j then .ok (rngI 0 j.toNat) s else .bad := rfl
@[simp] theorem rng2D_i (i j : Int) : rng2D (.p (.int i)) (.p (.int j)) s = if rngOk i && rngOk j then .ok (rngI i (j - i).toNat) s else .bad := rfl
@[simp] theorem kRng2_app (c : E) (x : D) : kRng2 cf b c σ x s = Res.and (evE cf b c σ s) (rng2D x) := rfl
@[simp] theorem enumD_t (xs : List P) : enumD (.p (.tuple xs)) s = .ok (enumL 0 xs) s := rfl
@[simp] theorem enumD_l (xs : List P) : enumD (.p (.list xs)) s = .ok (enumL 0 xs) s := rfl
@[simp] theorem zipD_t (xs ys : List P) : zipD (.p (.tuple xs)) (.p (.tuple ys)) s = .ok (zipL xs ys) s := rfl
@[simp] theorem zipD_m (xs ys : List P) : zipD (.p (.tuple xs)) (.p (.list ys)) s = .ok (zipL xs ys) s := rfl
@[simp] theorem zipD_l (xs ys : List P) : zipD (.p (.list xs)) (.p (.list ys)) s = .ok (zipL xs ys) s := rfl
@[simp] theorem kZip_app (c : E) (x : D) : kZip cf b c σ x s = Res.and (evE cf b c σ s) (zipD x) := rfl
@[simp] theorem revI_t (xs : List P) : revI (.p (.tuple xs)) s = .ok xs.reverse s := rfl
@[simp] theorem revI_l (xs : List P) : revI (.p (.list xs)) s = .ok xs.reverse s := rfl
@[simp] theorem kAsgN_app (i : Nat) (d : D) : kAsgN i σ d s = .nx (setV σ i d) s := rfl
@[simp] theorem kNx_app : kNx σ s = .nx σ s := rfl
@[simp] theorem kAsg_app (t : Tg) (d : D) : kAsg cf b t σ d s = Res.st σ (Res.calm (evTg cf b t σ d s)) kNx := rfl
@[simp] theorem kAsgL_app (i : Nat) (xs : List D) : kAsgL i σ xs s = .nx (setV σ i (.loc s.length)) (s ++ [.lst xs]) := rfl
@[simp] theorem kPar_2 (i j : Nat) (x y : D) : kPar [i, j] σ [x, y] s = .nx (setV (setV σ i x) j y) s := rfl
@[simp] theorem kPar_3 (i j k : Nat) (x y z : D) : kPar [i, j, k] σ [x, y, z] s = .nx (setV (setV (setV σ i x) j y) k z) s := rfl
@[simp] theorem kAug2_app (i : Nat) (z : D) : kAug2 i σ z s = .nx (setV σ i z) s := rfl
@[simp] theorem kAug_app (i : Nat) (o : Bop) (x y : D) : kAug i o σ x y s = Res.st σ (augD o x y s) (kAug2 i σ) := rfl
@[simp] theorem kExpr_app (d : D) : kExpr σ d s = .nx σ s := rfl
@[simp] theorem kRt_app (d : D) : kRt d s = .rt d s := rfl
@[simp] theorem kRtL_app (xs : List D) : kRtL xs s = .rt (.loc s.length) (s ++ [.lst xs]) := rfl
@[simp] theorem kIfe_app (x y : Ss) (t : Bool) : kIfe cf b x y σ t s = if t then evSs cf b x σ s else evSs cf b y σ s := rfl
theorem turnS_app (t : Tg) (x : Ss) (p : P) : turnS cf b t x p σ s = Res.st σ (Res.calm (evTg cf b t σ (.p p) s)) (evSs cf b x) := rfl
@[simp] theorem kFor_app (t : Tg) (x : Ss) (xs : List P) : kFor cf b t x σ xs s = forGo (turnS cf b t x) xs σ s := rfl
theorem kCnd_app (c : E) : kCnd cf b c σ s = Res.and (evE cf b c σ s) truD := rfl
@[simp] theorem kFrz_app (i : Nat) (p : P) : kFrz i σ p s = .nx (setV σ i (.p p)) s := rfl
@[simp] theorem kList_l (ps : List P) : kList (.p (.list ps)) s = .ok (ps.map D.p) s := rfl
@[simp] theorem kLen_app (xs : List D) : kLen xs s = if xs.length ≤ 16777216 then .ok xs s else .bad := rfl
@[simp] theorem kMapD_app (xs : List P) : kMapD xs s = .ok (xs.map D.p) s := rfl
/-! ### values -/
@[simp] theorem view_p (d : P) : view (.p d) s = .ok d s := rfl
@[simp] theorem view_s (ns : List Int) : view (.scr ns) s = .ok (.list (ns.map PyData.int)) s := rfl
@[simp] theorem take_p (d : P) : take (.p d) s = .ok d s := rfl
@[simp] theorem views_nil : views [] s = .ok [] s := rfl
@[simp] theorem views_p (d : P) (r : List D) : views (.p d :: r) s = Res.and (views r s) fun ps s => .ok (d :: ps) s := rfl
@[simp] theorem views_s (ns : List Int) (r : List D) : views (.scr ns :: r) s = Res.and (views r s) fun ps s => .ok (.list (ns.map PyData.int) :: ps) s := rfl
@[simp] theorem takes_nil : takes [] s = .ok [] s := rfl
@[simp] theorem takes_p (d : P) (r : List D) : takes (.p d :: r) s = Res.and (takes r s) fun ps s => .ok (d :: ps) s := rfl
@[simp] theorem truD_p (d : P) : truD (.p d) s = Res.ofO (truP d) s := by show Res.and (.ok d s) (fun p => M.opt (truP p)) = _; rw [and_ok, opt_app]
@[simp] theorem binD_p (o : Bop) (x y : P) : binD o (.p x) (.p y) s = Res.and (Res.ofO (binP o x y) s) kRet := by
  show Res.and (M.opt (binP o x y) s) _ = _
  rw [opt_app]; rfl
@[simp] theorem augD_p (o : Bop) (x y : P) : augD o (.p x) (.p y) s = Res.and (Res.ofO (augP o x y) s) kRet := by
  show Res.and (M.opt (augP o x y) s) _ = _
  rw [opt_app]; rfl
def kBool (r : Bool) (s : Store) : Res D := .ok (.p (.bool r)) s
@[simp] theorem kBool_app (r : Bool) : kBool r s = .ok (.p (.bool r)) s := rfl
@[simp] theorem cmpD_p (o : Cop) (x y : P) : cmpD o (.p x) (.p y) s = Res.and (Res.ofO (cmpP o x y) s) kBool := by
  show Res.and (M.opt (cmpP o x y) s) _ = _
  rw [opt_app]; rfl
@[simp] theorem cmpD_sl (o : Cop) (ns : List Int) (y : P) : cmpD o (.scr ns) (.p y) s = Res.and (Res.ofO (cmpP o (.list (ns.map PyData.int)) y) s) kBool := by
  show Res.and (M.opt (cmpP o _ y) s) _ = _
  rw [opt_app]; rfl
@[simp] theorem idxD_p (x y : P) : idxD (.p x) (.p y) s = Res.and (Res.ofO (idxP x y) s) kRet := by
  show Res.and (M.opt (idxP x y) s) _ = _
  rw [opt_app]; rfl
@[simp] theorem idxD_s (ns : List Int) (y : P) : idxD (.scr ns) (.p y) s = Res.and (Res.ofO (idxP (.list (ns.map PyData.int)) y) s) kRet := by
  show Res.and (M.opt (idxP _ y) s) _ = _
  rw [opt_app]; rfl
@[simp] theorem partD_n : partD none s = .ok none s := rfl
@[simp] theorem partD_i (i : Int) : partD (some (.p (.int i))) s = .ok (some i) s := rfl
def viewL (ds : List D) : Option (List P) := pures ds
theorem lst_app {i : Nat} {xs : List D} (h : s[i]? = some (.lst xs)) : lstAt (.loc i) s = .ok (i, xs) s := by
  show (match s[i]? with
    | some (.lst xs) => Res.ok (i, xs) s
    | _ => .bad) = _
  rw [h]
theorem view_lo {i : Nat} {xs : List P} (h : s[i]? = some (.lst (xs.map D.p))) : view (.loc i) s = .ok (.list xs) s := by
  have hp : ∀ xs : List P, pures (xs.map D.p) = some xs := by
    intro xs
    induction xs with
    | nil => rfl
    | cons x xs ih => simp only [List.map_cons, pures, ih, Option.map_some]
  show (match s[i]? with
    | some (.lst xs) => (match pures xs with
      | some ps => Res.ok (PyData.list ps) s
      | none => .bad)
    | _ => .bad) = _
  rw [h]
  dsimp only
  rw [hp]
theorem take_lo {i : Nat} {xs : List P} (h : s[i]? = some (.lst (xs.map D.p))) : take (.loc i) s = .ok (.list xs) (s.set i .dead) := by
  have hp : ∀ xs : List P, pures (xs.map D.p) = some xs := by
    intro xs
    induction xs with
    | nil => rfl
    | cons x xs ih => simp only [List.map_cons, pures, ih, Option.map_some]
  show (match s[i]? with
    | some (.lst xs) => (match pures xs with
      | some ps => Res.ok (PyData.list ps) (s.set i .dead)
      | none => .bad)
    | _ => .bad) = _
  rw [h]
  dsimp only
  rw [hp]
theorem idx_loc {i : Nat} {xs : List D} {k : Int} {d : D} (h : s[i]? = some (.lst xs)) (hk : L2.atI xs k = some d) : idxD (.loc i) (.p (.int k)) s = .ok d s := by
  show (match s[i]?, (D.p (.int k)) with
    | some (.lst xs), .p (.int k) => (match L2.atI xs k with
      | some d => Res.ok d s
      | none => .bad)
    | _, _ => .bad) = _
  rw [h]
  simp only [hk]
def kPut (b : Nat) (σ : Env) (d : D) (l : Nat) (xs : List D) (y : D) (s : Store) : Res Env := match y with
    | .p (.int k) => if fits b l d && decide (0 ≤ k) && decide (k < xs.length) then .ok σ (s.set l (.lst (xs.set k.toNat d))) else .bad
    | _ => .bad
theorem evt_sub (o i : E) (d : D) : evTg cf b (.sub o i) σ d s = Res.and (Res.calm (evE cf b o σ s)) fun x s => Res.and (Res.calm (evE cf b i σ s)) fun y s => Res.and (lstAt x s) fun (l, xs) s => kPut b σ d l xs y s := by
  show Res.and (Res.calm (evE cf b o σ s)) _ = _
  congr 1
  funext x s
  show Res.and (Res.calm (evE cf b i σ s)) _ = _
  congr 1
  funext y s
  show Res.and (lstAt x s) _ = _
  congr 1
  funext ⟨l, xs⟩ s
  cases y with
  | p d => cases d <;> first | rfl | exact ite_app _ _ _ _
  | _ => rfl
end
/-! ### data -/
section
variable (s : Store)
@[simp] theorem truP_b (b : Bool) : truP (.bool b) = some b := rfl
@[simp] theorem truP_i (i : Int) : truP (.int i) = some (i != 0) := rfl
@[simp] theorem truP_l (xs : List P) : truP (.list xs) = some (!xs.isEmpty) := rfl
@[simp] theorem truP_t (xs : List P) : truP (.tuple xs) = some (!xs.isEmpty) := rfl
@[simp] theorem cmp_lt (i j : Int) : cmpP .lt (.int i) (.int j) = some (decide (i < j)) := rfl
@[simp] theorem cmp_le (i j : Int) : cmpP .le (.int i) (.int j) = some (decide (i ≤ j)) := rfl
@[simp] theorem cmp_gt (i j : Int) : cmpP .gt (.int i) (.int j) = some (decide (j < i)) := rfl
@[simp] theorem cmp_ge (i j : Int) : cmpP .ge (.int i) (.int j) = some (decide (j ≤ i)) := rfl
@[simp] theorem cmp_eqP (x y : P) : cmpP .eq x y = eqP x y := rfl
@[simp] theorem cmp_neP (x y : P) : cmpP .ne x y = (eqP x y).map (!·) := rfl
@[simp] theorem cmp_inP (x y : P) : cmpP .isin x y = inP x y := rfl
@[simp] theorem cmp_ninP (x y : P) : cmpP .notin x y = (inP x y).map (!·) := rfl
@[simp] theorem eqP_tn (xs : List P) : eqP (.tuple xs) (.tuple []) = some xs.isEmpty := rfl
theorem eqE_some {x y : P} {b : Bool} (h : eqE x y = some b) : ∃ xs, x = .tuple xs ∧ y = .tuple [] ∧ b = xs.isEmpty := by
  unfold eqE at h
  split at h
  · cases h; exact ⟨_, rfl, rfl, rfl⟩
  · cases h
@[simp] theorem eqP_i (i j : Int) : eqP (.int i) (.int j) = some (decide (i = j)) := by
  show (if SeqAt.shaped (.int i) && SeqAt.shaped (.int j) then some (PyData.eqv (.int i) (.int j)) else none) = _
  rw [if_pos (show (SeqAt.shaped (.int i) && SeqAt.shaped (.int j)) = true from rfl)]
  simp only [PyData.eqv]
  congr 1
def isN : P → Bool
  | .none => true
  | _ => false
@[simp] theorem isN_none : isN .none = true := rfl
@[simp] theorem isN_int (i : Int) : isN (.int i) = false := rfl
@[simp] theorem isN_bool (i : Bool) : isN (.bool i) = false := rfl
@[simp] theorem isN_str (i : Str) : isN (.str i) = false := rfl
@[simp] theorem isN_tup (i : List P) : isN (.tuple i) = false := rfl
@[simp] theorem cmp_is_n (x : P) : cmpP .is x .none = some (isN x) := by cases x <;> rfl
@[simp] theorem cmp_isnot_n (x : P) : cmpP .isnot x .none = some (!isN x) := by cases x <;> rfl
@[simp] theorem cmp_is_b (a b : Bool) : cmpP .is (.bool a) (.bool b) = some (decide (a = b)) := rfl
@[simp] theorem cmp_isnot_b (a b : Bool) : cmpP .isnot (.bool a) (.bool b) = some (!decide (a = b)) := rfl
@[simp] theorem items_t (xs : List P) : items (.tuple xs) = some xs := rfl
@[simp] theorem items_l (xs : List P) : items (.list xs) = some xs := rfl
@[simp] theorem slcP_t (xs : List P) (l h : Option Int) : slcP (.tuple xs) l h = some (.tuple (cutL xs l h)) := rfl
@[simp] theorem slcP_l (xs : List P) (l h : Option Int) : slcP (.list xs) l h = some (.list (cutL xs l h)) := rfl
@[simp] theorem revP_t (xs : List P) : revP (.tuple xs) = some (.tuple xs.reverse) := rfl
@[simp] theorem revP_l (xs : List P) : revP (.list xs) = some (.list xs.reverse) := rfl
@[simp] theorem bin_add (i j : Int) : binP .add (.int i) (.int j) = some (.int (i + j)) := rfl
@[simp] theorem bin_sub (i j : Int) : binP .sub (.int i) (.int j) = some (.int (i - j)) := rfl
@[simp] theorem aug_add (i j : Int) : augP .add (.int i) (.int j) = some (.int (i + j)) := rfl
@[simp] theorem aug_sub (i j : Int) : augP .sub (.int i) (.int j) = some (.int (i - j)) := rfl
@[simp] theorem bin_addt (xs ys : List P) : binP .add (.tuple xs) (.tuple ys) = if xs.length + ys.length ≤ 16777216 then some (.tuple (xs ++ ys)) else none := rfl
@[simp] theorem bin_addl (xs ys : List P) : binP .add (.list xs) (.list ys) = if xs.length + ys.length ≤ 16777216 then some (.list (xs ++ ys)) else none := rfl
theorem mulOk_l {i : Int} (h0 : -18446744073709551616 < i) (h1 : i < 18446744073709551616) (j : Int) : mulOk i j = true := by
  unfold mulOk mulSm
  simp only [Bool.or_eq_true, Bool.and_eq_true, decide_eq_true_eq]
  exact .inl (.inl ⟨h0, h1⟩)
theorem mulOk_r {j : Int} (h0 : -18446744073709551616 < j) (h1 : j < 18446744073709551616) (i : Int) : mulOk i j = true := by
  unfold mulOk mulSm
  simp only [Bool.or_eq_true, Bool.and_eq_true, decide_eq_true_eq]
  exact .inl (.inr ⟨h0, h1⟩)
theorem bin_mul_l {i : Int} (h0 : -18446744073709551616 < i) (h1 : i < 18446744073709551616) (j : Int) : binP .mul (.int i) (.int j) = some (.int (i * j)) := if_pos (mulOk_l h0 h1 j)
theorem bin_mul_r {j : Int} (h0 : -18446744073709551616 < j) (h1 : j < 18446744073709551616) (i : Int) : binP .mul (.int i) (.int j) = some (.int (i * j)) := if_pos (mulOk_r h0 h1 i)
theorem log_lt' {b n : Nat} (hb : 0 < b) (h : n < 2 ^ b) : n.log2 < b := by
  by_cases z : n = 0
  · subst z; simpa using hb
  · exact (Nat.log2_lt z).mpr h
theorem bin_mul_w {i j : Int} {a b : Nat} (ha : i.natAbs < 2 ^ a) (hb : j.natAbs < 2 ^ b) (a0 : 0 < a) (b0 : 0 < b) (h : a + b ≤ 1000000) : binP .mul (.int i) (.int j) = some (.int (i * j)) := if_pos (by
  have x := log_lt' a0 ha
  have y := log_lt' b0 hb
  unfold mulOk
  rw [Bool.or_eq_true]
  exact .inr (decide_eq_true (by omega)))
theorem bin_fdiv {j : Int} (h0 : 0 < j) (h1 : j < 1073741824) (i : Int) : binP .fdiv (.int i) (.int j) = some (.int (i / j)) := if_pos (by
  have h3 : j.natAbs.log2 < 30 := log_lt' (by decide) (by omega)
  unfold divOk
  rw [decide_eq_true h0, decide_eq_true (by omega)]
  rfl)
theorem bin_mod {j : Int} (h0 : 0 < j) (i : Int) : binP .mod (.int i) (.int j) = some (.int (i % j)) := if_pos (decide_eq_true h0)
theorem rngOk_ok {i : Int} (h0 : -4611686018427387904 ≤ i) (h1 : i < 4611686018427387904) : rngOk i = true := by
  unfold rngOk
  simp only [Bool.and_eq_true, decide_eq_true_eq]
  exact ⟨h0, h1⟩
def kBlt (b : Blt) (ps : List P) (s : Store) : Res D := Res.and (Res.ofO (bltP b ps) s) kRet
@[simp] theorem kBlt_app (b : Blt) (ps : List P) : kBlt b ps s = Res.and (Res.ofO (bltP b ps) s) kRet := rfl
@[simp] theorem blt1_len (x : P) : bltD .len [.p x] s = Res.and (Res.ofO (bltP .len [x]) s) kRet := by show (M.bnd (M.opt (bltP .len [x])) (fun r => M.ret (D.p r))) s = _; rw [bnd_app, opt_app]; rfl
@[simp] theorem blt1_abs (x : P) : bltD .abs [.p x] s = Res.and (Res.ofO (bltP .abs [x]) s) kRet := by show (M.bnd (M.opt (bltP .abs [x])) (fun r => M.ret (D.p r))) s = _; rw [bnd_app, opt_app]; rfl
@[simp] theorem blt1_maxl (x : P) : bltD .maxl [.p x] s = Res.and (Res.ofO (bltP .maxl [x]) s) kRet := by show (M.bnd (M.opt (bltP .maxl [x])) (fun r => M.ret (D.p r))) s = _; rw [bnd_app, opt_app]; rfl
@[simp] theorem blt1_minl (x : P) : bltD .minl [.p x] s = Res.and (Res.ofO (bltP .minl [x]) s) kRet := by show (M.bnd (M.opt (bltP .minl [x])) (fun r => M.ret (D.p r))) s = _; rw [bnd_app, opt_app]; rfl
@[simp] theorem blt1_sum (x : P) : bltD .sum [.p x] s = Res.and (Res.ofO (bltP .sum [x]) s) kRet := by show (M.bnd (M.opt (bltP .sum [x])) (fun r => M.ret (D.p r))) s = _; rw [bnd_app, opt_app]; rfl
@[simp] theorem blt1_all (x : P) : bltD .all [.p x] s = Res.and (Res.ofO (bltP .all [x]) s) kRet := by show (M.bnd (M.opt (bltP .all [x])) (fun r => M.ret (D.p r))) s = _; rw [bnd_app, opt_app]; rfl
@[simp] theorem blt1_any (x : P) : bltD .any [.p x] s = Res.and (Res.ofO (bltP .any [x]) s) kRet := by show (M.bnd (M.opt (bltP .any [x])) (fun r => M.ret (D.p r))) s = _; rw [bnd_app, opt_app]; rfl
@[simp] theorem blt1_tuple (x : P) : bltD .tuple [.p x] s = Res.and (Res.ofO (bltP .tuple [x]) s) kRet := by show (M.bnd (M.opt (bltP .tuple [x])) (fun r => M.ret (D.p r))) s = _; rw [bnd_app, opt_app]; rfl
@[simp] theorem blt1_list (x : P) : bltD .list [.p x] s = Res.and (Res.ofO (bltP .list [x]) s) kRet := by show (M.bnd (M.opt (bltP .list [x])) (fun r => M.ret (D.p r))) s = _; rw [bnd_app, opt_app]; rfl
@[simp] theorem blt1_sorted (x : P) : bltD .sorted [.p x] s = Res.and (Res.ofO (bltP .sorted [x]) s) kRet := by show (M.bnd (M.opt (bltP .sorted [x])) (fun r => M.ret (D.p r))) s = _; rw [bnd_app, opt_app]; rfl
@[simp] theorem blt1_repr (x : P) : bltD .repr [.p x] s = Res.and (Res.ofO (bltP .repr [x]) s) kRet := by show (M.bnd (M.opt (bltP .repr [x])) (fun r => M.ret (D.p r))) s = _; rw [bnd_app, opt_app]; rfl
@[simp] theorem blt1_str (x : P) : bltD .str [.p x] s = Res.and (Res.ofO (bltP .str [x]) s) kRet := by show (M.bnd (M.opt (bltP .str [x])) (fun r => M.ret (D.p r))) s = _; rw [bnd_app, opt_app]; rfl
@[simp] theorem blt1_int (x : P) : bltD .int [.p x] s = Res.and (Res.ofO (bltP .int [x]) s) kRet := by show (M.bnd (M.opt (bltP .int [x])) (fun r => M.ret (D.p r))) s = _; rw [bnd_app, opt_app]; rfl
@[simp] theorem blt1_bool (x : P) : bltD .bool [.p x] s = Res.and (Res.ofO (bltP .bool [x]) s) kRet := by show (M.bnd (M.opt (bltP .bool [x])) (fun r => M.ret (D.p r))) s = _; rw [bnd_app, opt_app]; rfl
@[simp] theorem blt2_divmod (x y : P) : bltD .divmod [.p x, .p y] s = Res.and (Res.ofO (bltP .divmod [x, y]) s) kRet := by show (M.bnd (M.opt (bltP .divmod [x, y])) (fun r => M.ret (D.p r))) s = _; rw [bnd_app, opt_app]; rfl
@[simp] theorem blt2_max2 (x y : P) : bltD .max2 [.p x, .p y] s = Res.and (Res.ofO (bltP .max2 [x, y]) s) kRet := by show (M.bnd (M.opt (bltP .max2 [x, y])) (fun r => M.ret (D.p r))) s = _; rw [bnd_app, opt_app]; rfl
@[simp] theorem blt2_min2 (x y : P) : bltD .min2 [.p x, .p y] s = Res.and (Res.ofO (bltP .min2 [x, y]) s) kRet := by show (M.bnd (M.opt (bltP .min2 [x, y])) (fun r => M.ret (D.p r))) s = _; rw [bnd_app, opt_app]; rfl
@[simp] theorem blt_len_s (ns : List Int) : bltD .len [.scr ns] s = .ok (.p (.int ns.length)) s := by
  show (M.bnd (M.opt (bltP .len [.list (ns.map PyData.int)])) (fun r => M.ret (D.p r))) s = _
  rw [bnd_app, opt_app]
  show Res.ok (D.p (.int ((ns.map PyData.int).length))) s = _
  rw [List.length_map]
@[simp] theorem len_t (xs : List P) : bltP .len [.tuple xs] = some (.int xs.length) := rfl
@[simp] theorem len_l (xs : List P) : bltP .len [.list xs] = some (.int xs.length) := rfl
@[simp] theorem abs_i (i : Int) : bltP .abs [.int i] = some (.int (if i < 0 then -i else i)) := rfl
@[simp] theorem max2_i (i j : Int) : bltP .max2 [.int i, .int j] = some (.int (if j > i then j else i)) := rfl
@[simp] theorem min2_i (i j : Int) : bltP .min2 [.int i, .int j] = some (.int (if j < i then j else i)) := rfl
theorem dmOk_ok {j : Int} (h0 : 0 < j) (h1 : j < 2 ^ 200) : dmOk j = true := by
  have h2 : j.natAbs < 2 ^ 200 := by omega
  have h3 : j.natAbs.log2 < 200 := (Nat.log2_lt (by omega)).mpr h2
  unfold dmOk
  rw [decide_eq_true h0, decide_eq_true (by omega)]
  rfl
theorem divmod_i {j : Int} (h0 : 0 < j) (h1 : j < 2 ^ 200) (i : Int) : bltP .divmod [.int i, .int j] = some (.tuple [.int (i / j), .int (i % j)]) := if_pos (dmOk_ok h0 h1)
theorem bin_mult {xs : List P} {k : Int} (h : xs ≠ []) (k0 : 2 ≤ k) (hl : xs.length * k.toNat ≤ 16777216) : binP .mul (.tuple xs) (.int k) = some (.tuple (List.replicate k.toNat xs).flatten) := by
  have e : xs.isEmpty = false := by cases xs with
    | nil => exact absurd rfl h
    | cons a b => rfl
  show (if (xs.isEmpty || k == 1) && decide (-(2 ^ 63) ≤ k) && decide (k < 2 ^ 63) then some (PyData.tuple xs)
    else if !xs.isEmpty && decide (2 ≤ k) && decide (xs.length * k.toNat ≤ line) then some (.tuple (List.replicate k.toNat xs).flatten)
    else if !xs.isEmpty && decide (k ≤ 0) && decide (-(2 ^ 63) ≤ k) then some (.tuple []) else none) = _
  rw [e, show (k == 1) = false from beq_eq_false_iff_ne.mpr (by omega), if_neg (by simp), if_pos (by rw [decide_eq_true k0, decide_eq_true (show xs.length * k.toNat ≤ line from hl)]; rfl)]
theorem bin_mul1 {xs : List P} {k : Int} (h : xs = [] ∨ k = 1) (k0 : -9223372036854775808 ≤ k) (k1 : k < 9223372036854775808) : binP .mul (.tuple xs) (.int k) = some (.tuple xs) := by
  refine if_pos ?_
  rw [decide_eq_true (show -(2 ^ 63) ≤ k from k0), decide_eq_true (show k < 2 ^ 63 from k1), Bool.and_true, Bool.and_true, Bool.or_eq_true]
  rcases h with rfl | rfl
  · exact .inl rfl
  · exact .inr rfl
@[simp] theorem tuple_l (xs : List P) : bltP .tuple [.list xs] = some (.tuple xs) := rfl
@[simp] theorem tuple_t (xs : List P) : bltP .tuple [.tuple xs] = some (.tuple xs) := rfl
@[simp] theorem list_l (xs : List P) : bltP .list [.list xs] = some (.list xs) := rfl
@[simp] theorem list_t (xs : List P) : bltP .list [.tuple xs] = some (.list xs) := rfl
@[simp] theorem int_b (b : Bool) : bltP .int [.bool b] = some (.int (if b then 1 else 0)) := rfl
@[simp] theorem int_i (i : Int) : bltP .int [.int i] = some (.int i) := rfl
@[simp] theorem all_l (xs : List P) : bltP .all [.list xs] = (toBools xs).map fun bs => .bool (bs.all id) := rfl
@[simp] theorem any_l (xs : List P) : bltP .any [.list xs] = (toBools xs).map fun bs => .bool (bs.any id) := rfl
@[simp] theorem sum_l (xs : List P) : bltP .sum [.list xs] = (toInts xs).map fun ns => .int ns.sum := rfl
theorem toBools_map {α : Type} (g : α → Bool) : ∀ xs : List α, toBools (xs.map fun x => .bool (g x)) = some (xs.map g)
  | [] => rfl
  | x :: xs => by simp only [List.map_cons, toBools, toBools_map g xs, Option.map_some]
theorem toInts_map {α : Type} (g : α → Int) : ∀ xs : List α, toInts (xs.map fun x => .int (g x)) = some (xs.map g)
  | [] => rfl
  | x :: xs => by simp only [List.map_cons, toInts, toInts_map g xs, Option.map_some]
@[simp] theorem lenTs_nil : lenTs .nil = 0 := rfl
@[simp] theorem lenTs_cons (t : Tg) (ts : Tgs) : lenTs (.cons t ts) = lenTs ts + 1 := rfl
@[simp] theorem idxP_t (xs : List P) (i : Int) : idxP (.tuple xs) (.int i) = L2.atI xs i := rfl
@[simp] theorem idxP_l (xs : List P) (i : Int) : idxP (.list xs) (.int i) = L2.atI xs i := rfl
theorem atI_nat {α : Type} {xs : List α} {k : Nat} : L2.atI xs (k : Int) = xs[k]? := by
  unfold L2.atI L2.ixN
  by_cases h : k < xs.length
  · simp [h]
  · have : ¬ ((k : Int) < xs.length) := by omega
    simp [h, this]
@[simp] theorem atI_0 {α : Type} (x : α) (xs : List α) : L2.atI (x :: xs) 0 = some x := atI_nat (k := 0)
@[simp] theorem atI_1 {α : Type} (x y : α) (xs : List α) : L2.atI (x :: y :: xs) 1 = some y := atI_nat (k := 1)
@[simp] theorem atI_2 {α : Type} (x y z : α) (xs : List α) : L2.atI (x :: y :: z :: xs) 2 = some z := atI_nat (k := 2)
end
/-! ### calls -/
/-- how a def ends -/
def fin (lo : Bool) (s : Store) (r : SR) : Res D := match r with
  | .rt d s' => leave lo s d s'
  | .nx _ s' => leave lo s (.p .none) s'
  | .exn c v _ s' => .exn c v (s'.take s.length)
  | .bad => .bad
theorem callF_app {T : Tab} {L : Nat → Bool} {k f : Nat} {fd : FD} (hT : T f = some fd) (xs : List D) (s : Store) (hl : xs.length = fd.ps) :
    callF T L (k + 1) f xs s = fin (L f) s (evSs (callF T L k) s.length fd.body (xs.map some ++ List.replicate (fd.ns - fd.ps) none) s) := by
  show (match T f with
    | none => M.bad
    | some d => fun s => if xs.length = d.ps then
      (match evSs (callF T L k) s.length d.body (xs.map some ++ List.replicate (d.ns - d.ps) none) s with
      | .rt d s' => leave (L f) s d s'
      | .nx _ s' => leave (L f) s (.p .none) s'
      | .exn c v _ s' => .exn c v (s'.take s.length)
      | .bad => .bad) else .bad) s = _
  rw [hT]
  dsimp only
  rw [if_pos hl]
  unfold fin
  rfl
@[simp] theorem fin_ite (lo : Bool) (s : Store) (p : Prop) [Decidable p] (x y : SR) : fin lo s (if p then x else y) = if p then fin lo s x else fin lo s y := by split <;> rfl
@[simp] theorem fin_rt (lo : Bool) (s : Store) (d : P) (s' : Store) : fin lo s (.rt (.p d) s') = .ok (.p d) (s'.take s.length) := rfl
@[simp] theorem fin_nx (lo : Bool) (s : Store) (σ : Env) (s' : Store) : fin lo s (.nx σ s') = .ok (.p .none) (s'.take s.length) := rfl
/-! ### what holds behind an evaluation -/
section
variable {a b : Type}
def Res.sat (r : Res a) (Q : a → Store → Prop) : Prop := match r with
  | .ok x s => Q x s
  | _ => False
def SR.sat (r : SR) (N : Env → Store → Prop) (R : D → Store → Prop) : Prop := match r with
  | .nx σ s => N σ s
  | .rt d s => R d s
  | _ => False
@[simp] theorem sat_ok (x : a) (s : Store) (Q : a → Store → Prop) : Res.sat (.ok x s) Q = Q x s := rfl
theorem sat_and (r : Res a) (f : a → Store → Res b) (Q : b → Store → Prop) : Res.sat (Res.and r f) Q = Res.sat r fun x s => Res.sat (f x s) Q := by cases r <;> rfl
@[simp] theorem sat_calm (r : Res a) (Q : a → Store → Prop) : Res.sat (Res.calm r) Q = Res.sat r Q := by cases r <;> rfl
theorem sat_st (σ : Env) (r : Res a) (f : a → Store → SR) (N : Env → Store → Prop) (R : D → Store → Prop) : SR.sat (Res.st σ r f) N R = Res.sat r fun x s => SR.sat (f x s) N R := by cases r <;> rfl
theorem sat_nxt (r : SR) (f : Env → Store → SR) (N : Env → Store → Prop) (R : D → Store → Prop) : SR.sat (r.nxt f) N R = SR.sat r (fun σ s => SR.sat (f σ s) N R) R := by cases r <;> rfl
@[simp] theorem sat_nx (σ : Env) (s : Store) (N : Env → Store → Prop) (R : D → Store → Prop) : SR.sat (.nx σ s) N R = N σ s := rfl
@[simp] theorem sat_rt (d : D) (s : Store) (N : Env → Store → Prop) (R : D → Store → Prop) : SR.sat (.rt d s) N R = R d s := rfl
theorem sat_fin (lo : Bool) (s : Store) (r : SR) (Q : D → Store → Prop) : Res.sat (fin lo s r) Q = SR.sat r (fun _ s' => Q (.p .none) (s'.take s.length)) (fun d s' => Res.sat (leave lo s d s') Q) := by cases r <;> rfl
theorem Res.sat.imp {r : Res a} {Q Q' : a → Store → Prop} (h : r.sat Q) (i : ∀ x s, Q x s → Q' x s) : r.sat Q' := by
  cases r <;> first | exact i _ _ h | exact h
theorem SR.sat.imp {r : SR} {N N' : Env → Store → Prop} {R R' : D → Store → Prop} (h : r.sat N R) (i : ∀ x s, N x s → N' x s) (j : ∀ x s, R x s → R' x s) : r.sat N' R' := by
  cases r <;> first | exact i _ _ h | exact j _ _ h | exact h
theorem sat_ex {r : Res a} {Q : a → Store → Prop} (h : r.sat Q) : ∃ x s, r = .ok x s ∧ Q x s := by
  cases r <;> first | exact ⟨_, _, rfl, h⟩ | exact h.elim
@[simp] theorem leave_p (lo : Bool) (s : Store) (d : P) (s' : Store) : leave lo s (.p d) s' = .ok (.p d) (s'.take s.length) := rfl
/-- a loop, by what holds ahead of each turn -/
theorem for_sat {f : P → Env → Store → SR} (I : List P → Env → Store → Prop) {R : D → Store → Prop} : ∀ {xs : List P} {σ : Env} {s : Store}, I xs σ s → (∀ x r σ s, I (x :: r) σ s → (f x σ s).sat (I r) R) → (forGo f xs σ s).sat (I []) R
  | [], σ, s, h, _ => h
  | x :: xs, σ, s, h, k => by
    show SR.sat ((f x σ s).nxt _) _ _
    rw [sat_nxt]
    exact (k x xs σ s h).imp (fun σ' s' h' => for_sat I h' k) fun _ _ h => h
/-- a comprehension, by what holds ahead of each turn -/
theorem comp_sat {f : P → M (List P)} (I : List P → List P → Store → Prop) : ∀ {xs acc : List P} {s : Store}, I xs acc s → (∀ x r acc s, I (x :: r) acc s → (f x s).sat fun ys s' => acc.length + ys.length < 16777216 ∧ I r (acc ++ ys) s') → (compGo f xs acc s).sat (I [])
  | [], acc, s, h, _ => h
  | x :: xs, acc, s, h, k => by
    show Res.sat (Res.and (f x s) _) _
    rw [sat_and]
    refine (k x xs acc s h).imp fun ys s' h' => ?_
    show Res.sat ((if decide (acc.length + ys.length < line) then compGo f xs (acc ++ ys) else M.bad) s') _
    rw [if_pos (decide_eq_true (show acc.length + ys.length < line from h'.1))]
    exact comp_sat I h'.2 k
/-- a comprehension that changes nothing -/
theorem comp_map {f : P → M (List P)} (g : P → P) {s : Store} : ∀ {xs acc : List P}, (∀ x, x ∈ xs → f x s = .ok [g x] s) → acc.length + xs.length < 16777216 → compGo f xs acc s = .ok (acc ++ xs.map g) s
  | [], acc, _, _ => by rw [List.map_nil, List.append_nil]; rfl
  | x :: xs, acc, h, hl => by
    show Res.and (f x s) _ = _
    rw [h x List.mem_cons_self, and_ok]
    simp only [List.length_cons] at hl
    show (if decide (acc.length + [g x].length < line) then compGo f xs (acc ++ [g x]) else M.bad) s = _
    rw [if_pos (decide_eq_true (show acc.length + [g x].length < line by show acc.length + [g x].length < 16777216; simp; omega))]
    rw [comp_map g (fun y hy => h y (List.mem_cons_of_mem _ hy)) (by simp; omega)]
    simp
theorem comp_flat {f : P → M (List P)} (g : P → List P) {s : Store} : ∀ {xs acc : List P}, (∀ x, x ∈ xs → f x s = .ok (g x) s ∧ (g x).length ≤ 1) → acc.length + xs.length < 16777216 → compGo f xs acc s = .ok (acc ++ xs.flatMap g) s
  | [], acc, _, _ => by rw [List.flatMap_nil, List.append_nil]; rfl
  | x :: xs, acc, h, hl => by
    show Res.and (f x s) _ = _
    have hx := h x List.mem_cons_self
    rw [hx.1, and_ok]
    have h1 := hx.2
    simp only [List.length_cons] at hl
    show (if decide (acc.length + (g x).length < line) then compGo f xs (acc ++ (g x)) else M.bad) s = _
    rw [if_pos (decide_eq_true (show acc.length + (g x).length < line by show acc.length + (g x).length < 16777216; omega))]
    rw [comp_flat g (fun y hy => h y (List.mem_cons_of_mem _ hy)) (by simp; omega)]
    simp
/-- a loop that changes no store -/
theorem for_fold {α : Type} {f : P → Env → Store → SR} {s : Store} (e : α → Env) (g : α → P → α) : ∀ {xs : List P} {x : α}, (∀ p, p ∈ xs → ∀ x, f p (e x) s = .nx (e (g x p)) s) → forGo f xs (e x) s = .nx (e (xs.foldl g x)) s
  | [], _, _ => rfl
  | p :: xs, x, h => by
    show (f p (e x) s).nxt _ = _
    rw [h p List.mem_cons_self x]
    exact for_fold e g fun q hq => h q (List.mem_cons_of_mem _ hq)
end
@[simp] theorem forGo_nil (f : P → Env → Store → SR) (σ : Env) (s : Store) : forGo f [] σ s = .nx σ s := rfl
theorem forGo_step (f : P → Env → Store → SR) (x : P) (xs : List P) (σ : Env) (s : Store) : forGo f (x :: xs) σ s = (f x σ s).nxt (forGo f xs) := rfl
theorem compGo_step (f : P → M (List P)) (x : P) (xs acc : List P) (s : Store) : compGo f (x :: xs) acc s = Res.and (f x s) fun ys s => if acc.length + ys.length < 16777216 then compGo f xs (acc ++ ys) s else .bad := by
  show Res.and (f x s) _ = _
  congr 1
  funext ys s
  by_cases h : acc.length + ys.length < line
  · rw [if_pos (show acc.length + ys.length < 16777216 from h), if_pos (decide_eq_true h)]
  · rw [if_neg (show ¬ acc.length + ys.length < 16777216 from h), if_neg (by simp [h])]; rfl
end Ev

end
section
namespace Own
open Ev
/-- _law_cell -/
def o7 : FD := ⟨2, 4, (.cons (.ife (.cmp .lt (.var 1) (.blt .len (.cons (.var 0) .nil))) (.cons (.ret (.idx (.var 0) (.var 1))) .nil) .nil) (.cons (.asg (.name 2) (.bin .mod (.bin .mul (.lit (.int 60013)) (.bin .add (.bin .add (.bin .mul (.var 1) (.var 1)) (.bin .mul (.lit (.int 5)) (.var 1))) (.lit (.int 3)))) (.lit (.int 2147483249)))) (.cons (.for (.name 3) (.e (.slc (.var 0) .none (.some (.lit (.int 3))))) (.cons (.asg (.name 2) (.bin .mod (.bin .add (.bin .mul (.var 2) (.lit (.int 41221))) (.var 3)) (.lit (.int 2147483249)))) .nil)) (.cons (.ret (.var 2)) .nil))))⟩
/-- _law_pool -/
def o8 : FD := ⟨1, 2, (.cons (.asg (.name 1) (.ite (.or (.cmp .lt (.var 0) (.lit (.int 0))) (.cmp .ge (.var 0) (.bin .pow (.lit (.int 10)) (.lit (.int 18))))) (.blt .abs (.cons (.var 0) .nil)) (.lit (.int 0)))) (.cons (.retL (.lst (.cons (.bin .mod (.var 0) (.lit (.int 2147483249))) (.cons (.var 1) (.cons (.lit (.int 0)) .nil))))) .nil))⟩
/-- _law_draw -/
def o9 : FD := ⟨2, 4, (.cons (.asg (.sub (.var 0) (.lit (.int 2))) (.bin .add (.idx (.var 0) (.lit (.int 2))) (.lit (.int 1)))) (.cons (.asg (.name 2) (.idx (.var 0) (.lit (.int 0)))) (.cons (.asg (.sub (.var 0) (.lit (.int 0))) (.bin .mod (.bin .add (.bin .mul (.var 2) (.bin .add (.bin .mod (.var 2) (.lit (.int 50021))) (.lit (.int 30011)))) (.bin .mul (.lit (.int 80021)) (.idx (.var 0) (.lit (.int 2))))) (.lit (.int 2147483249)))) (.cons (.ife (.cmp .gt (.idx (.var 0) (.lit (.int 1))) (.lit (.int 0))) (.cons (.asg (.tup (.cons (.sub (.var 0) (.lit (.int 1))) (.cons (.name 3) .nil))) (.blt .divmod (.cons (.idx (.var 0) (.lit (.int 1))) (.cons (.var 1) .nil)))) (.cons (.ret (.var 3)) .nil)) .nil) (.cons (.ret (.bin .mod (.bin .fdiv (.idx (.var 0) (.lit (.int 0))) (.lit (.int 64))) (.var 1))) .nil)))))⟩
end Own
namespace Ev
open PySem PySem.Spec PyProof.Rows L2 Own
/-! ### lists of the store, unconditionally -/
def rd (s : Store) (i : Nat) : Option Ob := s[i]?
def wr (s : Store) (i : Nat) (o : Ob) : Store := s.set i o
theorem rd_wr {s : Store} {i : Nat} (h : i < s.length) (o : Ob) : rd (wr s i o) i = some o := List.getElem?_set_self h
theorem rd_wr_ne {s : Store} {i j : Nat} (h : i ≠ j) (o : Ob) : rd (wr s i o) j = rd s j := List.getElem?_set_ne h
theorem rd_app_l {s ls : Store} {i : Nat} (h : i < s.length) : rd (s ++ ls) i = rd s i := List.getElem?_append_left h
theorem wr_app_l {s ls : Store} {i : Nat} (h : i < s.length) (o : Ob) : wr (s ++ ls) i o = wr s i o ++ ls := List.set_append_left i _ h
@[simp] theorem wr_wr (s : Store) (i : Nat) (o o' : Ob) : wr (wr s i o) i o' = wr s i o' := List.set_set ..
@[simp] theorem wr_len (s : Store) (i : Nat) (o : Ob) : (wr s i o).length = s.length := List.length_set
@[simp] theorem wr_take (s : Store) (i : Nat) (o : Ob) : (wr s i o).take s.length = wr s i o := by
  rw [← wr_len s i o]; exact List.take_length
theorem rd_app_r {s ls : Store} {n k : Nat} (h : n = s.length + k) : rd (s ++ ls) n = ls[k]? := by
  unfold rd
  rw [h, List.getElem?_append_right (Nat.le_add_right _ _), Nat.add_sub_cancel_left]
theorem wr_app_r {s ls : Store} {n k : Nat} (h : n = s.length + k) (o : Ob) : wr (s ++ ls) n o = s ++ ls.set k o := by
  unfold wr
  rw [h, List.set_append_right _ _ (Nat.le_add_right _ _), Nat.add_sub_cancel_left]
def lkIdx (o : Option Ob) (k : Int) (s : Store) : Res D := match o with
  | some (.lst xs) => Res.ofO (L2.atI xs k) s
  | _ => .bad
def lkLst (i : Nat) (o : Option Ob) (s : Store) : Res (Nat × List D) := match o with
  | some (.lst xs) => .ok (i, xs) s
  | _ => .bad
def lkView (o : Option Ob) (s : Store) : Res P := match o with
  | some (.lst xs) => (match pures xs with
    | some ps => .ok (.list ps) s
    | none => .bad)
  | _ => .bad
@[simp] theorem idxD_l (i : Nat) (k : Int) (s : Store) : idxD (.loc i) (.p (.int k)) s = lkIdx (rd s i) k s := by
  show (match s[i]?, (D.p (.int k)) with
    | some (.lst xs), .p (.int k) => (match L2.atI xs k with
      | some d => Res.ok d s
      | none => .bad)
    | _, _ => .bad) = _
  unfold lkIdx rd
  cases s[i]? with
  | none => rfl
  | some o => cases o with
    | dead => rfl
    | lst xs => dsimp only; cases L2.atI xs k <;> rfl
@[simp] theorem lkIdx_some (xs : List D) (k : Int) (s : Store) : lkIdx (some (.lst xs)) k s = Res.ofO (L2.atI xs k) s := rfl
@[simp] theorem lstAt_l (i : Nat) (s : Store) : lstAt (.loc i) s = lkLst i (rd s i) s := by
  show (match s[i]? with
    | some (.lst xs) => Res.ok (i, xs) s
    | _ => .bad) = _
  unfold lkLst rd
  cases s[i]? with
  | none => rfl
  | some o => cases o <;> rfl
@[simp] theorem lkLst_some (i : Nat) (xs : List D) (s : Store) : lkLst i (some (.lst xs)) s = .ok (i, xs) s := rfl
@[simp] theorem view_l (i : Nat) (s : Store) : view (.loc i) s = lkView (rd s i) s := by
  show (match s[i]? with
    | some (.lst xs) => (match pures xs with
      | some ps => Res.ok (PyData.list ps) s
      | none => .bad)
    | _ => .bad) = _
  unfold lkView rd
  cases s[i]? with
  | none => rfl
  | some o => cases o <;> rfl
@[simp] theorem pures_map : ∀ xs : List P, pures (xs.map D.p) = some xs
  | [] => rfl
  | x :: xs => by simp only [List.map_cons, pures, pures_map xs, Option.map_some]
@[simp] theorem lkView_some (xs : List P) (s : Store) : lkView (some (.lst (xs.map D.p))) s = .ok (.list xs) s := by
  show (match pures (xs.map D.p) with
    | some ps => Res.ok (PyData.list ps) s
    | none => .bad) = _
  rw [pures_map]
@[simp] theorem lkView_nil (s : Store) : lkView (some (.lst [])) s = .ok (.list []) s := rfl
@[simp] theorem evt_sub_s (cf : CF) (b : Nat) (σ : Env) (s : Store) (o i : E) (d : D) : evTg cf b (.sub o i) σ d s = Res.and (Res.calm (evE cf b o σ s)) fun x s => Res.and (Res.calm (evE cf b i σ s)) fun y s => Res.and (lstAt x s) fun lx s => kPut b σ d lx.1 lx.2 y s := evt_sub cf b σ s o i d
@[simp] theorem kPut_i (b : Nat) (σ : Env) (d : D) (l : Nat) (xs : List D) (k : Int) (s : Store) : kPut b σ d l xs (.p (.int k)) s = if fits b l d && decide (0 ≤ k) && decide (k < xs.length) then .ok σ (wr s l (.lst (xs.set k.toNat d))) else .bad := rfl
@[simp] theorem fits_p (b l : Nat) (d : P) : fits b l (.p d) = true := rfl
/-! ### the pool -/
def pool (a b c : Int) : Ob := .lst [.p (.int a), .p (.int b), .p (.int c)]
structure PoolOk (st : Store) (i : Nat) : Prop where
  ex : ∃ a b c : Int, rd st i = some (pool a b c) ∧ 0 ≤ a ∧ a < 2147483249 ∧ 0 ≤ b
structure HPool (T : Tab) (L : Nat → Bool) : Prop where
  c : T 7 = some o7
  p : T 8 = some o8
  l : L 8 = true
  d : T 9 = some o9
/-- behind draws: the pool alone is another -/
structure Drawn (i : Nat) (s s' : Store) : Prop where
  ex : ∃ a b c : Int, s' = wr s i (pool a b c) ∧ 0 ≤ a ∧ a < 2147483249 ∧ 0 ≤ b
  lt : i < s.length
theorem Drawn.ok {i : Nat} {s s' : Store} (h : Drawn i s s') : PoolOk s' i := by
  obtain ⟨a, b, c, rfl, h1, h2, h3⟩ := h.ex
  exact ⟨a, b, c, rd_wr h.lt _, h1, h2, h3⟩
theorem Drawn.len {i : Nat} {s s' : Store} (h : Drawn i s s') : s'.length = s.length := by
  obtain ⟨a, b, c, rfl, h1, h2, h3⟩ := h.ex
  exact List.length_set
theorem Drawn.lt' {i : Nat} {s s' : Store} (h : Drawn i s s') : i < s'.length := by rw [h.len]; exact h.lt
theorem PoolOk.lt {i : Nat} {s : Store} (h : PoolOk s i) : i < s.length := by
  obtain ⟨a, b, c, h, _⟩ := h.ex
  exact (List.getElem?_eq_some_iff.mp h).1
theorem PoolOk.drawn {i : Nat} {s : Store} (h : PoolOk s i) : Drawn i s s := by
  obtain ⟨a, b, c, e, h1⟩ := h.ex
  obtain ⟨hl, he⟩ := List.getElem?_eq_some_iff.mp e
  exact ⟨⟨a, b, c, by rw [← he]; exact (List.set_getElem_self hl).symm, h1⟩, hl⟩
theorem Drawn.trans {i : Nat} {s s' s2 : Store} (h : Drawn i s s') (k : Drawn i s' s2) : Drawn i s s2 := by
  obtain ⟨a, b, c, rfl, _⟩ := h.ex
  obtain ⟨a', b', c', rfl, h1⟩ := k.ex
  exact ⟨⟨a', b', c', List.set_set .., h1⟩, h.lt⟩
/-- the same behind lists of one's own -/
theorem Drawn.app {i : Nat} {s : Store} {ls : List Ob} {s' : Store} (hi : i < s.length) (k : Drawn i (s ++ ls) s') : ∃ s2, Drawn i s s2 ∧ s' = s2 ++ ls := by
  obtain ⟨a', b', c', rfl, h1⟩ := k.ex
  exact ⟨_, ⟨⟨a', b', c', rfl, h1⟩, hi⟩, List.set_append_left i _ hi⟩
theorem PoolOk.app {i : Nat} {s : Store} (h : PoolOk s i) (ls : List Ob) : PoolOk (s ++ ls) i := by
  obtain ⟨a, b, c, e, h1⟩ := h.ex
  exact ⟨a, b, c, by rw [rd_app_l h.lt]; exact e, h1⟩
theorem draw {T : Tab} {L : Nat → Bool} (H : HPool T L) (n : Nat) {st : Store} {i : Nat} {m : Int} (h : PoolOk st i) (m0 : 0 < m) (m1 : m < 1267650600228229401496703205376) :
    (callF T L (n + 1) 9 [.loc i, .p (.int m)] st).sat fun d st' => ∃ r : Int, d = .p (.int r) ∧ 0 ≤ r ∧ r < m ∧ Drawn i st st' := by
  obtain ⟨a, b, c, e, h1, h2, h3⟩ := h.ex
  have hl := h.lt
  rw [callF_app H.d _ _ rfl]
  have e1 := bin_mul_l (i := a) (by omega) (by omega) (a % 50021 + 30011)
  have e2 := bin_mul_l (i := 80021) (by omega) (by omega) (c + 1)
  have e3 := bin_mod (j := 2147483249) (by omega)
  have e4 := bin_mod (j := 50021) (by omega)
  have e5 := bin_fdiv (j := 64) (by omega) (by omega)
  have e6 := bin_mod m0
  have e7 := divmod_i m0 (Int.lt_trans m1 (by decide))
  have q1 : 0 ≤ (a * (a % 50021 + 30011) + 80021 * (c + 1)) % 2147483249 := Int.emod_nonneg _ (by omega)
  have q2 : (a * (a % 50021 + 30011) + 80021 * (c + 1)) % 2147483249 < 2147483249 := Int.emod_lt_of_pos _ (by omega)
  by_cases hp : 0 < b
  · simp [rd_wr, o9, e, pool, hl, e1, e2, e3, e4, hp, e7]
    exact ⟨Int.emod_nonneg _ (by omega), Int.emod_lt_of_pos _ m0, ⟨⟨_, _, _, rfl, q1, q2, Int.ediv_nonneg h3 (by omega)⟩, hl⟩⟩
  · simp [rd_wr, o9, e, pool, hl, e1, e2, e3, e4, e5, e6, hp]
    exact ⟨Int.emod_nonneg _ (by omega), Int.emod_lt_of_pos _ m0, ⟨⟨_, _, _, rfl, q1, q2, h3⟩, hl⟩⟩
end Ev
namespace Ev
open PySem PySem.Spec PyProof.Rows L2 Own
theorem bin_pow {i j : Int} (h0 : 0 ≤ j) (h1 : j ≤ 1000000) (h2 : i.natAbs < 18446744073709551616) : binP .pow (.int i) (.int j) = some (.int (i ^ j.toNat)) := if_pos (by simp only [Bool.and_eq_true, decide_eq_true_eq]; exact ⟨⟨h0, h1⟩, h2⟩)
@[simp] theorem pow18 : binP .pow (.int 10) (.int 18) = some (.int 1000000000000000000) := by rw [bin_pow (by decide) (by decide) (by decide)]; rfl
@[simp] theorem pow30 : binP .pow (.int 10) (.int 30) = some (.int 1000000000000000000000000000000) := by rw [bin_pow (by decide) (by decide) (by decide)]; rfl
theorem cut_mem {α : Type} {xs : List α} {lo hi : Option Int} {x : α} (h : x ∈ cutL xs lo hi) : x ∈ xs := List.mem_of_mem_drop (List.mem_of_mem_take h)
theorem cut_len {α : Type} (xs : List α) (lo hi : Option Int) : (cutL xs lo hi).length ≤ xs.length := by
  unfold cutL
  rw [List.length_take, List.length_drop]
  omega
theorem leave_new {s : Store} {i : Nat} {xs : List P} (h : i = s.length) : leave true s (.loc i) (s ++ [.lst (xs.map D.p)]) = .ok (.loc s.length) (s ++ [.lst (xs.map D.p)]) := by
  subst h
  unfold leave
  dsimp only
  rw [if_neg (Nat.lt_irrefl _)]
  have e : (s ++ [Ob.lst (xs.map D.p)])[s.length]? = some (.lst (xs.map D.p)) := by
    rw [List.getElem?_append_right (Nat.le_refl _), Nat.sub_self]; rfl
  rw [e]
  dsimp only
  rw [pures_map]
  dsimp only
  rw [if_pos rfl, List.take_left]
theorem sat_ofO {a : Type} {o : Option a} {s : Store} {Q : a → Store → Prop} {x : a} (h : o = some x) (q : Q x s) : (Res.ofO o s).sat Q := by rw [h]; exact q
theorem sat_atI {xs : List P} {r : Int} {s : Store} {Q : P → Store → Prop} (h0 : 0 ≤ r) (h1 : r < xs.length) (q : ∀ y, y ∈ xs → Q y s) : (Res.ofO (L2.atI xs r) s).sat Q := by
  obtain ⟨k, rfl⟩ := Int.eq_ofNat_of_zero_le h0
  have hk : k < xs.length := by omega
  refine sat_ofO (x := xs[k]) ?_ (q _ (List.getElem_mem hk))
  rw [atI_nat, List.getElem?_eq_getElem hk]
theorem cell {T : Tab} {L : Nat → Bool} (H : HPool T L) (n : Nat) {st : Store} (ns : List Int) (k : Int) (k0 : 0 ≤ k) (hk : k < 1000) :
    (callF T L (n + 1) 7 [.scr ns, .p (.int k)] st).sat fun d st' => st' = st ∧ ∃ v : Int, d = .p (.int v) := by
  rw [callF_app H.c _ _ rfl]
  by_cases h' : k < ns.length
  · obtain ⟨v, e⟩ : ∃ v : Int, L2.atI (ns.map PyData.int) k = some (.int v) := by
      obtain ⟨k, rfl⟩ := Int.eq_ofNat_of_zero_le k0
      have h : k < ns.length := by omega
      exact ⟨ns[k], by rw [atI_nat]; simp [h]⟩
    simp [o7, h', e]
  · have k1 := bin_mul_l (i := k) (by omega) (by omega) k
    have k2 := bin_mul_l (i := 5) (by omega) (by omega) k
    have k3 := bin_mul_l (i := 60013) (by omega) (by omega) (k * k + 5 * k + 3)
    have k4 := fun i => bin_mul_r (j := 41221) (by omega) (by omega) i
    have k5 := bin_mod (j := 2147483249) (by omega)
    simp [o7, h', k1, k2, k3, k5]
    simp only [sat_fin, sat_nxt]
    refine (for_sat (fun xs σ s => s = st ∧ (∀ x, x ∈ xs → ∃ i : Int, x = .int i) ∧ ∃ (v : Int) (w : Option D), σ = [some (.scr ns), some (.p (.int k)), some (.p (.int v)), w]) ⟨rfl, fun x hx => ?_, _, _, rfl⟩ fun x r σ s ⟨e1, e2, v, w, e3⟩ => ?_).imp ?_ fun _ _ h => h
    · obtain ⟨i, _, e⟩ := List.mem_map.mp (cut_mem hx)
      exact ⟨i, e.symm⟩
    · obtain ⟨i, rfl⟩ := e2 x List.mem_cons_self
      subst e1 e3
      simp [turnS_app, k4, k5]
      exact fun x hx => e2 x (List.mem_cons_of_mem _ hx)
    · rintro σ s ⟨e1, _, v, w, e3⟩
      subst e1 e3
      simp
theorem newpool {T : Tab} {L : Nat → Bool} (H : HPool T L) (n : Nat) (st : Store) (v : Int) :
    (callF T L (n + 1) 8 [.p (.int v)] st).sat fun d st' => d = .loc st.length ∧ st'.length = st.length + 1 ∧ PoolOk st' st.length := by
  rw [callF_app H.p _ _ rfl]
  have k5 := bin_mod (j := 2147483249) (by omega) v
  have q1 : 0 ≤ v % 2147483249 := Int.emod_nonneg _ (by omega)
  have q2 : v % 2147483249 < 2147483249 := Int.emod_lt_of_pos _ (by omega)
  have lv : ∀ b : Int, fin (L 8) st (.rt (.loc st.length) (st ++ [.lst [.p (.int (v % 2147483249)), .p (.int b), .p (.int 0)]])) = .ok (.loc st.length) (st ++ [pool (v % 2147483249) b 0]) := fun b => by
    show leave (L 8) st (.loc st.length) (st ++ [.lst (List.map D.p [.int (v % 2147483249), .int b, .int 0])]) = _
    rw [H.l, leave_new rfl]
    rfl
  have ok : ∀ b : Int, 0 ≤ b → PoolOk (st ++ [pool (v % 2147483249) b 0]) st.length := fun b hb => ⟨_, _, _, rd_app_r (k := 0) rfl, q1, q2, hb⟩
  by_cases h1 : v < 0
  · simp [o8, h1, k5, lv]
    exact ok _ (by omega)
  · by_cases h2 : 1000000000000000000 ≤ v
    · simp [o8, h1, h2, k5, lv]
      exact ok _ (by omega)
    · simp [o8, h1, h2, k5, lv]
      exact ok _ (by omega)
theorem rng_in {lo : Int} {n : Nat} {p : P} (h : p ∈ rngI lo n) : ∃ k : Int, p = .int k ∧ lo ≤ k ∧ k < lo + n := by
  unfold rngI at h
  obtain ⟨k, hk, rfl⟩ := List.mem_map.mp h
  exact ⟨_, rfl, by omega, by have := List.mem_range.mp hk; omega⟩
/-- a law's end: all cells are right -/
theorem all_right {T : Tab} {L : Nat → Bool} (H : HPool T L) {n R : Nat} {N : Int} (n0 : 0 ≤ N) (n1 : N ≤ 100) (ns : List Int) (b : Nat) (s : Store)
    (hr : ∀ (s : Store) (i : Nat), PoolOk s i → (callF T L (n + 1) R [.loc i] s).sat fun d _ => d = .p (.bool true)) :
    (evE (callF T L (n + 1)) b (.blt .all (.cons (.comp (.call R (.cons (.call 8 (.cons (.call 7 (.cons (.var 0) (.cons (.var 1) .nil))) .nil)) .nil)) (.name 1) (.rng1 (.blt .max2 (.cons (.lit (.int 2)) (.cons (.blt .min2 (.cons (.blt .len (.cons (.var 0) .nil)) (.cons (.lit (.int N)) .nil))) .nil)))) .none) .nil)) [some (.scr ns), none] s).sat fun d _ => d = .p (.bool true) := by
  simp
  try simp only [sat_fin, sat_nxt, sat_st, sat_and]
  generalize hk : (if (2 : Int) < (if N < (ns.length : Int) then N else (ns.length : Int)) then (if N < (ns.length : Int) then N else (ns.length : Int)) else (2 : Int)) = k
  have k8 : k ≤ 102 := by rw [← hk]; split <;> split <;> omega
  have k0 : 0 ≤ k := by rw [← hk]; split <;> split <;> omega
  have rk := rngOk_ok (i := k) (by omega) (by omega)
  simp [rk]
  try simp only [sat_fin, sat_nxt, sat_st, sat_and]
  refine (comp_sat (xs := rngI 0 k.toNat) (acc := []) (fun xs acc st => acc.length + xs.length ≤ 102 ∧ (∀ p, p ∈ xs → ∃ j : Int, p = .int j ∧ 0 ≤ j ∧ j < 102) ∧ ∃ m, acc = List.replicate m (.bool true)) ⟨by simp [rngI]; omega, fun p hp => ?_, 0, rfl⟩ ?_).imp ?_
  · obtain ⟨j, rfl, h0, h1⟩ := rng_in hp
    exact ⟨j, rfl, h0, by omega⟩
  · rintro p r acc st ⟨hl, hp, m, rfl⟩
    obtain ⟨j, rfl, j0, j1⟩ := hp p List.mem_cons_self
    simp [turnE_app]
    try simp only [sat_fin, sat_nxt, sat_st, sat_and]
    refine (cell H n ns j j0 (by omega)).imp ?_
    rintro _ _ ⟨rfl, v, rfl⟩
    simp
    try simp only [sat_fin, sat_nxt, sat_st, sat_and]
    refine (newpool H n _ v).imp ?_
    rintro _ s2 ⟨rfl, _, pk⟩
    simp
    try simp only [sat_fin, sat_nxt, sat_st, sat_and]
    refine (hr s2 _ pk).imp ?_
    rintro _ s3 rfl
    simp at hl
    simp
    exact ⟨by omega, by omega, fun p h => hp p (List.mem_cons_of_mem _ h), m + 1, by rw [List.replicate_succ']⟩
  · rintro acc st ⟨_, _, m, rfl⟩
    have := toBools_map (fun _ : P => true) (List.replicate m .none)
    simp only [List.map_replicate] at this
    simp [this]
end Ev


end
section
namespace Own
open Ev
/-- is_value -/
def o0 : FD := ⟨1, 1, (.cons (.ret (.and (.isi (.var 0) [.int]) (.not (.isi (.var 0) [.bool])))) .nil)⟩
/-- is_record -/
def o1 : FD := ⟨1, 2, (.cons (.ife (.or (.not (.isi (.var 0) [.tuple])) (.not (.chain .le .le (.lit (.int 1)) (.blt .len (.cons (.var 0) .nil)) (.lit (.int 5))))) (.cons (.ret (.lit (.bool false))) .nil) .nil) (.cons (.ret (.blt .all (.cons (.comp (.call 0 (.cons (.var 1) .nil)) (.name 1) (.e (.var 0)) .none) .nil))) .nil))⟩
/-- first_fault -/
def o2 : FD := ⟨1, 3, (.cons (.for (.tup (.cons (.name 1) (.cons (.name 2) .nil))) (.enum (.var 0)) (.cons (.ife (.or (.not (.call 1 (.cons (.var 2) .nil))) (.cmp .ne (.blt .len (.cons (.var 2) .nil)) (.blt .len (.cons (.idx (.var 0) (.lit (.int 0))) .nil)))) (.cons (.ret (.var 1)) .nil) .nil) .nil)) (.cons (.ret (.lit .none)) .nil))⟩
/-- is_table -/
def o3 : FD := ⟨1, 1, (.cons (.ret (.and (.isi (.var 0) [.tuple]) (.and (.chain .le .le (.lit (.int 1)) (.blt .len (.cons (.var 0) .nil)) (.lit (.int 30))) (.cmp .is (.call 2 (.cons (.var 0) .nil)) (.lit .none))))) .nil)⟩
/-- check_table -/
def o4 : FD := ⟨1, 2, (.cons (.ife (.or (.not (.isi (.var 0) [.tuple])) (.not (.chain .le .le (.lit (.int 1)) (.blt .len (.cons (.var 0) .nil)) (.lit (.int 30))))) (.cons .stop .nil) .nil) (.cons (.asg (.name 1) (.call 2 (.cons (.var 0) .nil))) (.cons (.ife (.cmp .isnot (.var 1) (.lit .none)) (.cons .stop .nil) .nil) .nil)))⟩
/-- columns_in -/
def o5 : FD := ⟨1, 1, (.cons (.ret (.blt .len (.cons (.idx (.var 0) (.lit (.int 0))) .nil))) .nil)⟩
/-- count_columns -/
def o6 : FD := ⟨1, 1, (.cons (.expr (.call 4 (.cons (.var 0) .nil))) (.cons (.ret (.call 5 (.cons (.var 0) .nil))) .nil))⟩
end Own
namespace Ev
open PySem PySem.Spec PyProof.Rows L2 Own
structure HTab (T : Tab) : Prop where
  v : T 0 = some o0
  r : T 1 = some o1
  f : T 2 = some o2
  c : T 4 = some o4
  i : T 5 = some o5
def isV : P → Bool
  | .int _ => true
  | _ => false
def isRec : P → Bool
  | .tuple xs => decide (1 ≤ xs.length) && decide (xs.length ≤ 5) && xs.all isV
  | _ => false
def lenP : P → Nat
  | .tuple xs => xs.length
  | _ => 0
/-- a table's records; x is the first one -/
def okR (x r : P) : Prop := isRec r = true ∧ lenP r = lenP x
def allR (x : P) (xs : List P) : Prop := ∀ r, r ∈ x :: xs → okR x r
def isTab (d : P) : Prop := match d with
  | .tuple (x :: xs) => xs.length < 30 ∧ allR x xs
  | _ => False
theorem tab_ex {d : P} (h : isTab d) : ∃ x xs, d = .tuple (x :: xs) ∧ xs.length < 30 ∧ allR x xs := by
  cases d with
  | tuple l => cases l with
    | nil => exact h.elim
    | cons x xs => exact ⟨x, xs, rfl, h⟩
  | _ => exact h.elim
theorem for_enum {f : P → Env → Store → SR} (I : Nat → List P → Env → Store → Prop) {R : D → Store → Prop} : ∀ {xs : List P} {k : Nat} {σ : Env} {s : Store}, I k xs σ s → (∀ k x r σ s, I k (x :: r) σ s → (f (.tuple [.int (k : Int), x]) σ s).sat (I (k + 1) r) R) → (forGo f (enumL k xs) σ s).sat (fun σ s => ∃ k, I k [] σ s) R
  | [], k, σ, s, h, _ => ⟨k, h⟩
  | x :: xs, k, σ, s, h, g => by
    show SR.sat ((f (.tuple [.int (k : Int), x]) σ s).nxt (forGo f (enumL (k + 1) xs))) _ _
    rw [sat_nxt]
    exact (g k x xs σ s h).imp (fun σ' s' h' => for_enum I h' g) fun _ _ h => h
section
variable {T : Tab} {L : Nat → Bool}
theorem is_value (H : HTab T) (n : Nat) (d : P) (s : Store) : callF T L (n + 1) 0 [.p d] s = .ok (.p (.bool (isV d))) s := by
  rw [callF_app H.v _ _ rfl]
  cases d <;> simp [o0, tyP, isV]
theorem is_record (H : HTab T) (n : Nat) (d : P) (s : Store) : callF T L (n + 2) 1 [.p d] s = .ok (.p (.bool (isRec d))) s := by
  rw [callF_app H.r _ _ rfl]
  cases d with
  | tuple xs =>
    by_cases h1 : (1 : Int) ≤ xs.length
    · by_cases h2 : (5 : Int) < xs.length
      · have e : isRec (.tuple xs) = false := by simp [isRec]; omega
        simp [o1, tyP, h1, h2, e]
      · have hc := comp_map (f := turnE (callF T L (n + 1)) s.length [some (.p (.tuple xs)), none] (.call 0 (.cons (.var 1) .nil)) (.name 1) .none) (fun x => .bool (isV x)) (s := s) (xs := xs) (acc := []) (fun x _ => by simp [turnE_app, is_value H]) (by
          simp only [List.length_nil]; omega)
        have e : isRec (.tuple xs) = xs.all isV := by
          have a1 : 1 ≤ xs.length := by omega
          have a2 : xs.length ≤ 5 := by omega
          simp [isRec, a1, a2]
        simp [o1, tyP, h1, h2, e, hc, toBools_map, Function.comp_def]
    · have e : isRec (.tuple xs) = false := by simp [isRec]; omega
      simp [o1, tyP, h1, e]
  | _ => simp [o1, tyP, isRec]
theorem rec_tup {r : P} (h : isRec r = true) : ∃ a, r = .tuple a ∧ 1 ≤ a.length ∧ a.length ≤ 5 ∧ ∀ v, v ∈ a → isV v = true := by
  cases r with
  | tuple a =>
    simp only [isRec, Bool.and_eq_true, decide_eq_true_eq, List.all_eq_true] at h
    exact ⟨a, rfl, h.1.1, h.1.2, h.2⟩
  | _ => simp [isRec] at h
theorem first_fault (H : HTab T) (n : Nat) (x : P) (xs : List P) (s : Store) : (callF T L (n + 3) 2 [.p (.tuple (x :: xs))] s).sat fun d s' => s' = s ∧ ((d = .p .none ∧ allR x xs) ∨ ((∃ k : Int, d = .p (.int k)) ∧ ¬ allR x xs)) := by
  rw [callF_app H.f _ _ rfl]
  simp [o2]
  simp only [sat_fin, sat_nxt]
  refine (for_enum (fun k rs σ st => st = s ∧ (∃ a b, σ = [some (.p (.tuple (x :: xs))), a, b]) ∧ ∃ pre, x :: xs = pre ++ rs ∧ ∀ r, r ∈ pre → okR x r)
    (R := fun d s' => Res.sat (leave (L 2) s d s') fun d s' => s' = s ∧ ((d = .p .none ∧ allR x xs) ∨ ((∃ k : Int, d = .p (.int k)) ∧ ¬ allR x xs)))
    ⟨rfl, ⟨_, _, rfl⟩, [], rfl, fun r h => by cases h⟩ ?_).imp ?_ fun _ _ h => h
  · rintro k r rs σ st ⟨rfl, ⟨a, b, rfl⟩, pre, e, hp⟩
    have hm : r ∈ x :: xs := by rw [e]; simp
    cases er : isRec r with
    | false =>
      simp [turnS_app, is_record H, er]
      exact fun h => by simpa [er] using (h r hm).1
    | true =>
      have hx : isRec x = true := by
        cases pre with
        | nil => injection e with e1 _; rw [e1]; exact er
        | cons y pre => injection e with e1 _; rw [e1]; exact (hp y List.mem_cons_self).1
      obtain ⟨a1, rfl, _⟩ := rec_tup er
      obtain ⟨b1, rfl, _⟩ := rec_tup hx
      by_cases hab : (a1.length : Int) = b1.length
      · simp [turnS_app, is_record H, er, hab]
        exact ⟨pre ++ [.tuple a1], by rw [e]; simp, fun r hr => by
          rcases List.mem_append.mp hr with z | z
          · exact hp r z
          · rw [List.mem_singleton.mp z]; exact ⟨er, by show a1.length = b1.length; omega⟩⟩
      · simp [turnS_app, is_record H, er, hab]
        exact fun h => hab (by have := (h _ hm).2; simp [lenP] at this; omega)
  · rintro σ st ⟨k, rfl, ⟨a, b, rfl⟩, pre, e, hp⟩
    rw [List.append_nil] at e
    subst e
    simp
    exact hp
theorem is_table (H : HTab T) (h3 : T 3 = some o3) (n : Nat) (d : P) (s : Store) : (callF T L (n + 4) 3 [.p d] s).sat fun v s' => s' = s ∧ ∃ b, v = .p (.bool b) ∧ (b = true ↔ isTab d) := by
  rw [callF_app h3 _ _ rfl]
  cases d with
  | tuple xs =>
    by_cases h1 : (1 : Int) ≤ xs.length
    · by_cases h2 : (xs.length : Int) ≤ 30
      · cases xs with
        | nil => simp at h1
        | cons x xs =>
          have h1' : (1 : Int) ≤ (xs.length : Int) + 1 := by omega
          have h2' : (xs.length : Int) + 1 ≤ 30 := by simp only [List.length_cons] at h2; omega
          simp [o3, tyP, h1', h2']
          simp only [sat_fin, sat_nxt, sat_st, sat_and]
          refine (first_fault H n x xs s).imp ?_
          rintro d s' ⟨rfl, ⟨rfl, h⟩ | ⟨⟨k, rfl⟩, h⟩⟩
          · simp [isTab, h]
            omega
          · simp [isTab, h]
      · cases xs with
        | nil => simp at h1
        | cons x xs =>
          have h1' : (1 : Int) ≤ (xs.length : Int) + 1 := by omega
          have h2' : ¬ (xs.length : Int) + 1 ≤ 30 := by simp only [List.length_cons] at h2; omega
          have h30 : ¬ xs.length < 30 := by omega
          simp [o3, tyP, h1', h2', isTab, h30]
    · cases xs with
      | nil => simp [o3, tyP, isTab]
      | cons x xs => simp only [List.length_cons] at h1; omega
  | _ => simp [o3, tyP, isTab]
theorem check_table (H : HTab T) (n : Nat) {d : P} (h : isTab d) (s : Store) : callF T L (n + 4) 4 [.p d] s = .ok (.p .none) s := by
  obtain ⟨x, xs, rfl, hl, hr⟩ := tab_ex h
  rw [callF_app H.c _ _ rfl]
  obtain ⟨v, s', e, rfl, ⟨rfl, _⟩ | ⟨_, q⟩⟩ := sat_ex (first_fault (L := L) H n x xs s)
  · have h1' : (1 : Int) ≤ (xs.length : Int) + 1 := by omega
    have h2' : (xs.length : Int) + 1 ≤ 30 := by omega
    simp [o4, tyP, h1', h2', e]
  · exact absurd hr q
theorem columns_in (H : HTab T) (n : Nat) (a xs : List P) (s : Store) : callF T L (n + 1) 5 [.p (.tuple (.tuple a :: xs))] s = .ok (.p (.int a.length)) s := by
  rw [callF_app H.i _ _ rfl]
  simp [o5]
theorem tab_tup {d : P} (h : isTab d) : ∃ a xs, d = .tuple (.tuple a :: xs) ∧ 1 ≤ a.length ∧ a.length ≤ 5 ∧ xs.length < 30 := by
  obtain ⟨x, xs, rfl, hl, hr⟩ := tab_ex h
  obtain ⟨a, rfl, h1, h2, _⟩ := rec_tup (hr x List.mem_cons_self).1
  exact ⟨a, xs, rfl, h1, h2, hl⟩
theorem count_columns (H : HTab T) (h6 : T 6 = some o6) (n : Nat) {a xs : List P} (h : isTab (.tuple (.tuple a :: xs))) (s : Store) : callF T L (n + 5) 6 [.p (.tuple (.tuple a :: xs))] s = .ok (.p (.int a.length)) s := by
  rw [callF_app h6 _ _ rfl]
  simp [o6, check_table H n h, columns_in H]
end
end Ev


end
section
namespace Ev
open PySem PySem.Spec PyProof.Rows L2
/-! ### data that can be compared and shown -/
structure Gd (k : Nat) (d : P) : Prop where
  lay : d.canLay0 = true
  dep : d.depth ≤ k
structure Sh (k w : Nat) (d : P) : Prop where
  lay : d.canLay0 = true
  dep : d.depth ≤ k
  sho : d.showable = true
  wgt : d.weight ≤ w
theorem Sh.gd {k w : Nat} {d : P} (h : Sh k w d) : Gd k d := ⟨h.lay, h.dep⟩
theorem Gd.mono {k k' : Nat} {d : P} (h : Gd k d) (i : k ≤ k') : Gd k' d := ⟨h.lay, Nat.le_trans h.dep i⟩
theorem Sh.mono {k k' w w' : Nat} {d : P} (h : Sh k w d) (i : k ≤ k') (j : w ≤ w') : Sh k' w' d := ⟨h.lay, Nat.le_trans h.dep i, h.sho, Nat.le_trans h.wgt j⟩
theorem Gd.shaped {k : Nat} {d : P} (h : Gd k d) (i : k ≤ 64) : SeqAt.shaped d = true := by
  unfold SeqAt.shaped
  rw [h.lay, Bool.true_and]
  exact decide_eq_true (Nat.le_trans h.dep i)
theorem eqP_g {k : Nat} {x y : P} (hx : Gd k x) (hy : Gd k y) (i : k ≤ 64) : eqP x y = some (PyData.eqv x y) := by
  unfold eqP
  cases e : eqE x y with
  | some b =>
    obtain ⟨xs, rfl, rfl, rfl⟩ := eqE_some e
    show some xs.isEmpty = some (PyData.eqv (.tuple xs) (.tuple []))
    cases xs <;> simp only [PyData.eqv, PyData.eqvAll, List.isEmpty]
  | none =>
    dsimp only
    rw [hx.shaped i, hy.shaped i]
    rfl
theorem gd_int (i : Int) : Gd 0 (.int i) := ⟨by simp only [PyData.canLay0], by simp only [PyData.depth]; exact Nat.le_refl _⟩
theorem gd_bool (b : Bool) : Gd 0 (.bool b) := ⟨by simp only [PyData.canLay0], by simp only [PyData.depth]; exact Nat.le_refl _⟩
theorem gd_none : Gd 0 .none := ⟨by simp only [PyData.canLay0], by simp only [PyData.depth]; exact Nat.le_refl _⟩
theorem lay_all {xs : List P} (h : ∀ x, x ∈ xs → x.canLay0 = true) : PyData.canLayAll0 xs = true := by
  induction xs with
  | nil => simp only [PyData.canLayAll0]
  | cons x xs ih =>
    simp only [PyData.canLayAll0, Bool.and_eq_true]
    exact ⟨h x List.mem_cons_self, ih fun y hy => h y (List.mem_cons_of_mem _ hy)⟩
theorem dep_all {k : Nat} {xs : List P} (h : ∀ x, x ∈ xs → x.depth ≤ k) : PyData.depthAll xs ≤ k := by
  induction xs with
  | nil => simp only [PyData.depthAll]; exact Nat.zero_le _
  | cons x xs ih =>
    simp only [PyData.depthAll]
    exact Nat.max_le.mpr ⟨h x List.mem_cons_self, ih fun y hy => h y (List.mem_cons_of_mem _ hy)⟩
theorem sho_all {xs : List P} (h : ∀ x, x ∈ xs → x.showable = true) : PyData.showableAll xs = true := by
  induction xs with
  | nil => simp only [PyData.showableAll]
  | cons x xs ih =>
    simp only [PyData.showableAll, Bool.and_eq_true]
    exact ⟨h x List.mem_cons_self, ih fun y hy => h y (List.mem_cons_of_mem _ hy)⟩
theorem wgt_all {w : Nat} {xs : List P} (h : ∀ x, x ∈ xs → x.weight ≤ w) : PyData.weightAll xs ≤ xs.length * (w + 1) := by
  induction xs with
  | nil => simp only [PyData.weightAll]; exact Nat.zero_le _
  | cons x xs ih =>
    simp only [PyData.weightAll, List.length_cons, Nat.succ_mul]
    have h1 := h x List.mem_cons_self
    have h2 := ih fun y hy => h y (List.mem_cons_of_mem _ hy)
    omega
theorem gd_tup {k : Nat} {xs : List P} (h : ∀ x, x ∈ xs → Gd k x) : Gd (k + 1) (.tuple xs) :=
  ⟨by simp only [PyData.canLay0]; exact lay_all fun x hx => (h x hx).lay, by simp only [PyData.depth]; exact Nat.succ_le_succ (dep_all fun x hx => (h x hx).dep)⟩
theorem gd_list {k : Nat} {xs : List P} (h : ∀ x, x ∈ xs → Gd k x) : Gd (k + 1) (.list xs) :=
  ⟨by simp only [PyData.canLay0]; exact lay_all fun x hx => (h x hx).lay, by simp only [PyData.depth]; exact Nat.succ_le_succ (dep_all fun x hx => (h x hx).dep)⟩
theorem sh_tup {k w : Nat} {xs : List P} (h : ∀ x, x ∈ xs → Sh k w x) : Sh (k + 1) (xs.length * (w + 1)) (.tuple xs) :=
  ⟨(gd_tup fun x hx => (h x hx).gd).lay, (gd_tup fun x hx => (h x hx).gd).dep, by simp only [PyData.showable]; exact sho_all fun x hx => (h x hx).sho, by simp only [PyData.weight]; exact wgt_all fun x hx => (h x hx).wgt⟩
theorem sh_list {k w : Nat} {xs : List P} (h : ∀ x, x ∈ xs → Sh k w x) : Sh (k + 1) (xs.length * (w + 1)) (.list xs) :=
  ⟨(gd_list fun x hx => (h x hx).gd).lay, (gd_list fun x hx => (h x hx).gd).dep, by simp only [PyData.showable]; exact sho_all fun x hx => (h x hx).sho, by simp only [PyData.weight]; exact wgt_all fun x hx => (h x hx).wgt⟩
theorem log_lt {b n : Nat} (hb : 0 < b) (h : n < 2 ^ b) : n.log2 < b := by
  by_cases z : n = 0
  · subst z; simpa using hb
  · exact (Nat.log2_lt z).mpr h
theorem sh_int {i : Int} {b : Nat} (hb : 0 < b) (hb2 : b < 1920) (h : i.natAbs < 2 ^ b) : Sh 0 b (.int i) :=
  ⟨(gd_int i).lay, (gd_int i).dep, by simp only [PyData.showable]; exact decide_eq_true (Nat.lt_trans (log_lt hb h) hb2), by
    simp only [PyData.weight]
    split
    · exact Nat.zero_le _
    · exact log_lt hb h⟩
theorem sh_bool (b : Bool) : Sh 0 0 (.bool b) := ⟨(gd_bool b).lay, (gd_bool b).dep, by simp only [PyData.showable], by simp only [PyData.weight]; exact Nat.le_refl _⟩
theorem sh_none : Sh 0 0 .none := ⟨gd_none.lay, gd_none.dep, by simp only [PyData.showable], by simp only [PyData.weight]; exact Nat.le_refl _⟩
mutual
theorem short_of : ∀ d : P, d.canLay0 = true → d.showable = true → d.leavesShort 2000 = true
  | .none, _, _ => by simp only [PyData.leavesShort]
  | .bool _, _, _ => by simp only [PyData.leavesShort]
  | .int i, _, h => by
    simp only [PyData.showable, decide_eq_true_eq] at h
    simp only [PyData.leavesShort, decide_eq_true_eq]
    have := int_text_len_1921 h
    show (PySem.Str.ofString (toString i)).length ≤ 2000
    omega
  | .str x, h, _ => by
    simp only [PyData.canLay0, PyData.strOk] at h
    simp only [PyData.leavesShort, List.all_eq_true, decide_eq_true_eq]
    intro c hc
    have h2 := Array.all_eq_true_iff_forall_mem.mp h c (by simpa using hc)
    have h3 : c < 1114112 := of_decide_eq_true h2
    exact Nat.lt_trans h3 (by decide)
  | .list xs, h, g => by
    simp only [PyData.canLay0] at h
    simp only [PyData.showable] at g
    simp only [PyData.leavesShort]
    exact short_all xs h g
  | .tuple xs, h, g => by
    simp only [PyData.canLay0] at h
    simp only [PyData.showable] at g
    simp only [PyData.leavesShort]
    exact short_all xs h g
  | .dict _, h, _ => by simp only [PyData.canLay0] at h; cases h
theorem short_all : ∀ xs : List P, PyData.canLayAll0 xs = true → PyData.showableAll xs = true → PyData.leavesShortAll 2000 xs = true
  | [], _, _ => by simp only [PyData.leavesShortAll]
  | x :: xs, h, g => by
    simp only [PyData.canLayAll0, Bool.and_eq_true] at h
    simp only [PyData.showableAll, Bool.and_eq_true] at g
    simp only [PyData.leavesShortAll, Bool.and_eq_true]
    exact ⟨short_of x h.1 g.1, short_all xs h.2 g.2⟩
end
theorem repr_ok {k w : Nat} {d : P} (h : Sh k w d) (hk : k ≤ 60) (hw : w ≤ 8000) : bltP .repr [d] = some (.str d.shown) := by
  have h1 := PyData.shown_le 2000 (by decide) d (short_of d h.lay h.sho)
  have h2 := h.wgt
  have h3 := h.dep
  have h4 : d.shown.length ≤ 16777216 := Nat.le_trans h1 (Nat.le_trans (Nat.add_le_add_right (Nat.mul_le_mul_left _ (Nat.le_trans h2 hw)) _) (by decide))
  show (if PyData.showable d && !PyData.hasDict d && decide (d.shown.length ≤ line) && decide (d.depth ≤ 60) then some (PyData.str d.shown) else none) = _
  rw [h.sho, PyData.hasDict_of_canLay d h.lay, decide_eq_true (show d.shown.length ≤ line from h4), decide_eq_true (Nat.le_trans h3 hk)]
  rfl
mutual
theorem eqv_self : ∀ d : P, d.canLay0 = true → PyData.eqv d d = true
  | .none, _ => by simp only [PyData.eqv]
  | .bool _, _ => by simp only [PyData.eqv, beq_self_eq_true]
  | .int _, _ => by simp only [PyData.eqv, beq_self_eq_true]
  | .str _, _ => by simp only [PyData.eqv, beq_self_eq_true]
  | .list xs, h => by
    simp only [PyData.canLay0] at h
    simp only [PyData.eqv]
    exact eqv_selfs xs h
  | .tuple xs, h => by
    simp only [PyData.canLay0] at h
    simp only [PyData.eqv]
    exact eqv_selfs xs h
  | .dict _, h => by simp only [PyData.canLay0] at h; cases h
theorem eqv_selfs : ∀ xs : List P, PyData.canLayAll0 xs = true → PyData.eqvAll xs xs = true
  | [], _ => by simp only [PyData.eqvAll]
  | x :: xs, h => by
    simp only [PyData.canLayAll0, Bool.and_eq_true] at h
    simp only [PyData.eqvAll, Bool.and_eq_true]
    exact ⟨eqv_self x h.1, eqv_selfs xs h.2⟩
end
@[simp] theorem strOk_line : line = 16777216 := rfl
theorem gd_str (x : Str) (h : PyData.strOk x = true) : Gd 0 (.str x) := ⟨by simp only [PyData.canLay0]; exact h, by simp only [PyData.depth]; exact Nat.le_refl _⟩
theorem sh_str {x : Str} {w : Nat} (h : PyData.strOk x = true) (hl : x.length ≤ w) : Sh 0 w (.str x) := ⟨(gd_str x h).lay, (gd_str x h).dep, by simp only [PyData.showable], by simp only [PyData.weight]; exact hl⟩
/-- texts are short -/
theorem shown_len {k w : Nat} {d : P} (h : Sh k w d) (hw : w ≤ 8000) : d.shown.length ≤ 16777216 :=
  Nat.le_trans (PyData.shown_le 2000 (by decide) d (short_of d h.lay h.sho)) (Nat.le_trans (Nat.add_le_add_right (Nat.mul_le_mul_left _ (Nat.le_trans h.wgt hw)) _) (by decide))
theorem eqv_list_nil (xs : List P) : PyData.eqv (.list xs) (.list []) = xs.isEmpty := by cases xs <;> simp only [PyData.eqv, PyData.eqvAll, List.isEmpty]
theorem eqv_tup_nil (xs : List P) : PyData.eqv (.tuple xs) (.tuple []) = xs.isEmpty := by cases xs <;> simp only [PyData.eqv, PyData.eqvAll, List.isEmpty]
/-! ### what is shown are signs -/
theorem str_iff (x : Str) : PyData.strOk x = true ↔ ∀ c, c ∈ x.cps.toList → c < 1114112 := by
  unfold PyData.strOk
  rw [Array.all_eq_true_iff_forall_mem]
  constructor
  · intro h c hc
    exact of_decide_eq_true (h c (by simpa using hc))
  · intro h c hc
    exact decide_eq_true (h c (by simpa using hc))
theorem char_lt (c : Char) : c.toNat < 1114112 := by
  have h := c.valid
  simp only [UInt32.isValidChar, Nat.isValidChar] at h
  show c.val.toNat < _
  omega
theorem str_lit (x : String) : PyData.strOk (PySem.Str.ofString x) = true := by
  rw [str_iff, PySem.Str.ofString_eq_toList]
  intro c hc
  obtain ⟨d, _, rfl⟩ := List.mem_map.mp (by simpa using hc)
  exact char_lt d
theorem str_cat {x y : Str} (hx : PyData.strOk x = true) (hy : PyData.strOk y = true) : PyData.strOk (x ++ y) = true := by
  rw [str_iff] at *
  intro c hc
  rcases (show c ∈ x.cps.toList ∨ c ∈ y.cps.toList by
    have : c ∈ (x.cps ++ y.cps).toList := hc
    simpa using this) with h | h
  · exact hx c h
  · exact hy c h
theorem str_join {x : Str} (hx : PyData.strOk x = true) : ∀ {ts : List Str}, (∀ t, t ∈ ts → PyData.strOk t = true) → PyData.strOk (PySem.Str.join x ts) = true
  | [], _ => (str_iff _).mpr fun c hc => by cases hc
  | [t], h => h t List.mem_cons_self
  | t :: u :: ts, h => str_cat (str_cat (h t List.mem_cons_self) hx) (str_join hx fun v hv => h v (List.mem_cons_of_mem _ hv))
theorem str_from : ∀ {ts : List Str} (k : Nat) {acc : Str}, PyData.strOk acc = true → (∀ t, t ∈ ts → PyData.strOk t = true) → PyData.strOk (textFrom k acc ts) = true
  | [], k, acc, ha, _ => ha
  | t :: ts, k, acc, ha, h => str_from (k + 1) (str_cat (str_cat ha (str_lit _)) (h t List.mem_cons_self)) fun v hv => h v (List.mem_cons_of_mem _ hv)
theorem char_ok (q c : Nat) (hc : c < 1114112) : ∀ x, x ∈ Builtin.Str.reprChar q c → x < 1114112 := by
  have hex : ∀ (w : Nat) (x : Nat), x ∈ List.replicate (w - ((Nat.toDigits 16 c).map Char.toNat).length) 48 ++ (Nat.toDigits 16 c).map Char.toNat → x < 1114112 := by
    intro w x hx
    rcases List.mem_append.mp hx with h | h
    · rw [(List.mem_replicate.mp h).2]; decide
    · obtain ⟨d, _, rfl⟩ := List.mem_map.mp h
      exact char_lt d
  intro x hx
  unfold Builtin.Str.reprChar at hx
  dsimp only at hx
  split at hx
  · simp only [List.mem_cons, List.not_mem_nil, or_false] at hx
    rcases hx with rfl | rfl
    · decide
    · exact hc
  split at hx
  · simp only [List.mem_cons, List.not_mem_nil, or_false] at hx
    rcases hx with rfl | rfl <;> decide
  split at hx
  · simp only [List.mem_cons, List.not_mem_nil, or_false] at hx
    rcases hx with rfl | rfl <;> decide
  split at hx
  · simp only [List.mem_cons, List.not_mem_nil, or_false] at hx
    rcases hx with rfl | rfl <;> decide
  split at hx
  · rw [List.mem_singleton.mp hx]; exact hc
  split at hx
  · rcases List.mem_append.mp hx with h | h
    · simp only [List.mem_cons, List.not_mem_nil, or_false] at h
      rcases h with rfl | rfl <;> decide
    · exact hex _ x h
  split at hx
  · rcases List.mem_append.mp hx with h | h
    · simp only [List.mem_cons, List.not_mem_nil, or_false] at h
      rcases h with rfl | rfl <;> decide
    · exact hex _ x h
  · rcases List.mem_append.mp hx with h | h
    · simp only [List.mem_cons, List.not_mem_nil, or_false] at h
      rcases h with rfl | rfl <;> decide
    · exact hex _ x h
theorem repr_fold (q : Nat) : ∀ (l : List Nat) (acc : Array Nat), (∀ c, c ∈ l → c < 1114112) → (∀ c, c ∈ acc.toList → c < 1114112) → ∀ c, c ∈ (l.foldl (fun out c => out ++ (Builtin.Str.reprChar q c).toArray) acc).toList → c < 1114112
  | [], _, _, ha => ha
  | x :: l, acc, hl, ha => by
    refine repr_fold q l _ (fun c hc => hl c (List.mem_cons_of_mem _ hc)) fun c hc => ?_
    rcases (show c ∈ acc.toList ∨ c ∈ Builtin.Str.reprChar q x by simpa using hc) with h | h
    · exact ha c h
    · exact char_ok q x (hl x List.mem_cons_self) c h
theorem str_repr {x : Str} (hx : PyData.strOk x = true) : PyData.strOk (reprText x) = true := by
  have hq : reprQuote x < 1114112 := by unfold reprQuote; split <;> decide
  rw [str_iff] at *
  unfold reprText
  intro c hc
  rw [Array.toList_push, ← Array.foldl_toList] at hc
  rcases List.mem_append.mp hc with h | h
  · refine repr_fold (reprQuote x) x.cps.toList _ hx (fun c hc => ?_) c h
    have : c = reprQuote x := by simpa using hc
    rw [this]; exact hq
  · rw [List.mem_singleton.mp h]; exact hq
mutual
theorem shown_str : ∀ d : P, d.canLay0 = true → PyData.strOk d.shown = true
  | .none, _ => str_lit "None"
  | .bool b, _ => by cases b <;> exact str_lit _
  | .int i, _ => str_lit (toString i)
  | .str x, h => by
    simp only [PyData.canLay0] at h
    exact str_repr h
  | .list xs, h => by
    simp only [PyData.canLay0] at h
    show PyData.strOk (textFrom 0 "[" (PyData.shownAll xs) ++ "]") = true
    exact str_cat (str_from 0 (str_lit "[") (shown_strs xs h)) (str_lit "]")
  | .tuple xs, h => by
    simp only [PyData.canLay0] at h
    show PyData.strOk (("(" : Str) ++ PySem.Str.join ", " (PyData.shownAll xs) ++ _) = true
    exact str_cat (str_cat (str_lit "(") (str_join (str_lit ", ") (shown_strs xs h))) (str_lit _)
  | .dict _, h => by simp only [PyData.canLay0] at h; cases h
theorem shown_strs : ∀ xs : List P, PyData.canLayAll0 xs = true → ∀ t, t ∈ PyData.shownAll xs → PyData.strOk t = true
  | [], _ => fun t h => by cases h
  | x :: xs, h => fun t ht => by
    simp only [PyData.canLayAll0, Bool.and_eq_true] at h
    rcases List.mem_cons.mp ht with e | e
    · rw [e]; exact shown_str x h.1
    · exact shown_strs xs h.2 t e
end
/-- the same thing is shown alike -/
theorem shown_eq {k w : Nat} {d : P} (h : Sh k w d) : eqP (.str d.shown) (.str d.shown) = some true := by
  have g := gd_str d.shown (shown_str d h.lay)
  rw [eqP_g g g (by decide), eqv_self _ g.lay]
/-! ### open lists in built-ins, comparisons, methods -/
def kLstE' (ps : List P) (s : Store) : Res P := .ok (.list ps) s
@[simp] theorem kLstE'_app (ps : List P) (s : Store) : kLstE' ps s = .ok (.list ps) s := rfl
@[simp] theorem pures_nil : pures [] = some [] := rfl
@[simp] theorem pures_p (d : P) (r : List D) : pures (.p d :: r) = (pures r).map (d :: ·) := rfl
@[simp] theorem lkView_lst (l : List D) (s : Store) : lkView (some (.lst l)) s = Res.and (Res.ofO (pures l) s) kLstE' := by
  show (match pures l with
    | some ps => Res.ok (PyData.list ps) s
    | none => Res.bad) = _
  cases pures l <;> rfl
theorem sat_atX {xs : List D} {r : Int} {s : Store} {Q : D → Store → Prop} (h0 : 0 ≤ r) (h1 : r < xs.length) (q : ∀ y, y ∈ xs → Q y s) : (Res.ofO (L2.atI xs r) s).sat Q := by
  obtain ⟨k, rfl⟩ := Int.eq_ofNat_of_zero_le h0
  have hk : k < xs.length := by omega
  refine sat_ofO (x := xs[k]) ?_ (q _ (List.getElem_mem hk))
  rw [atI_nat, List.getElem?_eq_getElem hk]
section
variable (s : Store) (i : Nat)
def kBinP (o : Bop) (y : P) (p : P) (s : Store) : Res D := Res.and (Res.ofO (binP o p y) s) kRet
@[simp] theorem kBinP_app (o : Bop) (y p : P) : kBinP o y p s = Res.and (Res.ofO (binP o p y) s) kRet := rfl
@[simp] theorem binD_l (o : Bop) (y : P) : binD o (.loc i) (.p y) s = Res.and (lkView (rd s i) s) (kBinP o y) := by
  show Res.and (view (.loc i) s) _ = _
  rw [view_l]
  congr 1
  funext p s
  show Res.and (M.opt (binP o p y) s) _ = _
  rw [opt_app]; rfl
def kCmpP (o : Cop) (y : P) (p : P) (s : Store) : Res D := Res.and (Res.ofO (cmpP o p y) s) kBool
@[simp] theorem kCmpP_app (o : Cop) (y p : P) : kCmpP o y p s = Res.and (Res.ofO (cmpP o p y) s) kBool := rfl
@[simp] theorem cmpD_l (o : Cop) (y : P) : cmpD o (.loc i) (.p y) s = Res.and (lkView (rd s i) s) (kCmpP o y) := by
  show Res.and (view (.loc i) s) _ = _
  rw [view_l]
  congr 1
  funext p s
  show Res.and (M.opt (cmpP o p y) s) _ = _
  rw [opt_app]; rfl
def kCmpQ (o : Cop) (x : P) (p : P) (s : Store) : Res D := Res.and (Res.ofO (cmpP o x p) s) kBool
@[simp] theorem kCmpQ_app (o : Cop) (x p : P) : kCmpQ o x p s = Res.and (Res.ofO (cmpP o x p) s) kBool := rfl
@[simp] theorem cmpD_r (o : Cop) (x : P) : cmpD o (.p x) (.loc i) s = Res.and (lkView (rd s i) s) (kCmpQ o x) := by
  show Res.and (view (.loc i) s) _ = _
  rw [view_l]
  congr 1
  funext p s
  show Res.and (M.opt (cmpP o x p) s) _ = _
  rw [opt_app]; rfl
@[simp] theorem views_l (r : List D) : views (.loc i :: r) s = Res.and (lkView (rd s i) s) fun p s => Res.and (views r s) fun ps s => .ok (p :: ps) s := by
  show Res.and (view (.loc i) s) _ = _
  rw [view_l]
  rfl
def kBlt1 (b : Blt) (p : P) (s : Store) : Res D := Res.and (Res.ofO (bltP b [p]) s) kRet
@[simp] theorem kBlt1_app (b : Blt) (p : P) : kBlt1 b p s = Res.and (Res.ofO (bltP b [p]) s) kRet := rfl
theorem blt_loc {b : Blt} (h : ∀ s : Store, bltD b [.loc i] s = Res.and (views [.loc i] s) fun ps s => Res.and (M.opt (bltP b ps) s) fun r s => M.ret (.p r) s) : bltD b [.loc i] s = Res.and (lkView (rd s i) s) (kBlt1 b) := by
  rw [h, views_l, and_and]
  congr 1
  funext p s
  show Res.and (M.opt (bltP b [p]) s) _ = _
  rw [opt_app]; rfl
@[simp] theorem blt_len_l : bltD .len [.loc i] s = Res.and (lkView (rd s i) s) (kBlt1 .len) := blt_loc s i fun _ => rfl
@[simp] theorem blt_tuple_l : bltD .tuple [.loc i] s = Res.and (lkView (rd s i) s) (kBlt1 .tuple) := blt_loc s i fun _ => rfl
@[simp] theorem blt_list_l : bltD .list [.loc i] s = Res.and (lkView (rd s i) s) (kBlt1 .list) := blt_loc s i fun _ => rfl
@[simp] theorem blt_sum_l : bltD .sum [.loc i] s = Res.and (lkView (rd s i) s) (kBlt1 .sum) := blt_loc s i fun _ => rfl
@[simp] theorem blt_repr_l : bltD .repr [.loc i] s = Res.and (lkView (rd s i) s) (kBlt1 .repr) := blt_loc s i fun _ => rfl
@[simp] theorem blt_sorted_l : bltD .sorted [.loc i] s = Res.and (lkView (rd s i) s) (kBlt1 .sorted) := blt_loc s i fun _ => rfl
def lkChk (o : Option Ob) (s : Store) : Res Unit := match o with
  | some (.lst _) => .ok () s
  | _ => .bad
@[simp] theorem lkChk_some (xs : List D) : lkChk (some (.lst xs)) s = .ok () s := rfl
@[simp] theorem mthChk_l (m : Mth) : mthChk m (.loc i) s = if isListM m then lkChk (rd s i) s else .bad := by
  show (if isListM m then (match s[i]? with
      | some (.lst _) => Res.ok () s
      | _ => .bad) else .bad) = _
  unfold lkChk rd
  split
  · cases s[i]? with
    | none => rfl
    | some o => cases o <;> rfl
  · rfl
@[simp] theorem isListM_append : isListM .append = true := rfl
@[simp] theorem isListM_extend : isListM .extend = true := rfl
@[simp] theorem isListM_pop : isListM .pop = true := rfl
@[simp] theorem isListM_popAt : isListM .popAt = true := rfl
@[simp] theorem isListM_index : isListM .index = true := rfl
@[simp] theorem isListM_remove : isListM .remove = true := rfl
@[simp] theorem mthChk_pl (m : Mth) (xs : List P) : mthChk m (.p (.list xs)) s = if isListM m then .ok () s else .bad := by
  show (if isListM m then M.ret () else M.bad) s = _
  split <;> rfl
def kApp (b : Nat) (x : D) (lx : Nat × List D) (s : Store) : Res D := if fits b lx.1 x = true ∧ lx.2.length < 16777216 then .ok (.p .none) (wr s lx.1 (.lst (lx.2 ++ [x]))) else .bad
@[simp] theorem kApp_app (b : Nat) (x : D) (l : Nat) (xs : List D) : kApp b x (l, xs) s = if fits b l x = true ∧ xs.length < 16777216 then .ok (.p .none) (wr s l (.lst (xs ++ [x]))) else .bad := rfl
@[simp] theorem mth_append (b : Nat) (o x : D) : mthD b .append o [x] s = Res.and (lstAt o s) (kApp b x) := by
  show Res.and (lstAt o s) _ = _
  congr 1
  funext ⟨l, xs⟩ s
  unfold kApp
  by_cases h : fits b l x = true ∧ xs.length < 16777216
  · rw [if_pos h]
    dsimp only
    rw [if_pos (show (fits b l x && decide (xs.length < line)) = true by rw [Bool.and_eq_true, decide_eq_true_eq]; exact h)]
    rfl
  · rw [if_neg h]
    dsimp only
    rw [if_neg (show ¬ (fits b l x && decide (xs.length < line)) = true by rw [Bool.and_eq_true, decide_eq_true_eq]; exact h)]
    rfl
def kExt (zs : List P) (lx : Nat × List D) (s : Store) : Res D := if lx.2.length + zs.length ≤ 16777216 then .ok (.p .none) (wr s lx.1 (.lst (lx.2 ++ zs.map D.p))) else .bad
@[simp] theorem kExt_app (zs : List P) (l : Nat) (xs : List D) : kExt zs (l, xs) s = if xs.length + zs.length ≤ 16777216 then .ok (.p .none) (wr s l (.lst (xs ++ zs.map D.p))) else .bad := rfl
@[simp] theorem mth_extend (b : Nat) (o : D) (zs : List P) : mthD b .extend o [.p (.list zs)] s = Res.and (lstAt o s) (kExt zs) := by
  show Res.and (lstAt o s) _ = _
  congr 1
  funext ⟨l, xs⟩ s
  unfold kExt
  by_cases h : xs.length + zs.length ≤ 16777216
  · rw [if_pos h]
    dsimp only
    rw [if_pos (show decide (xs.length + zs.length ≤ line) = true from decide_eq_true h)]
    rfl
  · rw [if_neg h]
    dsimp only
    rw [if_neg (show ¬ decide (xs.length + zs.length ≤ line) = true by rw [decide_eq_true_eq]; exact h)]
    rfl
def kPopAt (k : Int) (lx : Nat × List D) (s : Store) : Res D := if 0 ≤ k ∧ k < 4611686018427387904 then (match lx.2[k.toNat]? with
  | some y => .ok y (wr s lx.1 (.lst (lx.2.eraseIdx k.toNat)))
  | none => .bad) else .bad
@[simp] theorem mth_popAt (b : Nat) (o : D) (k : Int) : mthD b .popAt o [.p (.int k)] s = Res.and (lstAt o s) (kPopAt k) := by
  show Res.and (lstAt o s) _ = _
  congr 1
  funext ⟨l, xs⟩ s
  unfold kPopAt
  by_cases h : 0 ≤ k ∧ k < 4611686018427387904
  · rw [if_pos h]
    dsimp only
    rw [if_pos (show (decide (0 ≤ k) && decide (k < 2 ^ 62)) = true by rw [Bool.and_eq_true, decide_eq_true_eq, decide_eq_true_eq]; exact h)]
    cases xs[k.toNat]? <;> rfl
  · rw [if_neg h]
    dsimp only
    rw [if_neg (show ¬ (decide (0 ≤ k) && decide (k < 2 ^ 62)) = true by rw [Bool.and_eq_true, decide_eq_true_eq, decide_eq_true_eq]; exact h)]
    rfl
theorem kPopAt_ok {k : Int} {l : Nat} {xs : List D} {y : D} (h0 : 0 ≤ k) (h1 : k < 4611686018427387904) (hy : xs[k.toNat]? = some y) : kPopAt k (l, xs) s = .ok y (wr s l (.lst (xs.eraseIdx k.toNat))) := by
  unfold kPopAt
  rw [if_pos ⟨h0, h1⟩]
  dsimp only
  rw [hy]
end
end Ev


end
section
namespace Own
open Ev
/-- _law_table -/
def o10 : FD := ⟨3, 9, (.cons (.par [6, 7] (.cons (.bin .add (.lit (.int 1)) (.call 9 (.cons (.var 0) (.cons (.var 2) .nil)))) (.cons (.bin .add (.lit (.int 1)) (.call 9 (.cons (.var 0) (.cons (.var 1) .nil)))) .nil))) (.cons (.asg (.name 3) (.idx (.lst (.cons (.lit (.int 2)) (.cons (.lit (.int 3)) (.cons (.lit (.int 9)) (.cons (.lit (.int 1000)) .nil))))) (.call 9 (.cons (.var 0) (.cons (.lit (.int 4)) .nil))))) (.cons (.asgL 4 (.lst .nil)) (.cons (.for (.name 5) (.rng1 (.var 7)) (.cons (.ife (.and (.cmp .ne (.var 4) (.lst .nil)) (.cmp .eq (.call 9 (.cons (.var 0) (.cons (.lit (.int 6)) .nil))) (.lit (.int 0)))) (.cons (.expr (.mth .append (.var 4) (.cons (.idx (.var 4) (.call 9 (.cons (.var 0) (.cons (.blt .len (.cons (.var 4) .nil)) .nil)))) .nil))) .nil) (.cons (.expr (.mth .append (.var 4) (.cons (.blt .tuple (.cons (.comp (.bin .sub (.call 9 (.cons (.var 0) (.cons (.var 3) .nil))) (.bin .fdiv (.var 3) (.lit (.int 2)))) (.name 8) (.rng1 (.var 6)) .none) .nil)) .nil))) .nil)) .nil)) (.cons (.ret (.blt .tuple (.cons (.var 4) .nil))) .nil)))))⟩
end Own
namespace Ev
open PySem PySem.Spec PyProof.Rows L2 Own
def rowP (r : List Int) : P := .tuple (r.map PyData.int)
def tabP (rs : List (List Int)) : P := .tuple (rs.map rowP)
structure RowOk (n : Nat) (r : List Int) : Prop where
  len : r.length = n
  val : ∀ v, v ∈ r → -1000 ≤ v ∧ v ≤ 1000
structure RowsOk (n : Nat) (rs : List (List Int)) : Prop where
  ne : 1 ≤ rs.length
  le : rs.length ≤ 30
  row : ∀ r, r ∈ rs → RowOk n r
theorem unmap {α β : Type} {f : α → β} {p : α → Prop} : ∀ {ys : List β}, (∀ y, y ∈ ys → ∃ x, y = f x ∧ p x) → ∃ xs : List α, ys = xs.map f ∧ ∀ x, x ∈ xs → p x
  | [], _ => ⟨[], rfl, fun x h => by cases h⟩
  | y :: ys, h => by
    obtain ⟨x, rfl, hx⟩ := h y List.mem_cons_self
    obtain ⟨xs, rfl, hs⟩ := unmap (ys := ys) fun z hz => h z (List.mem_cons_of_mem _ hz)
    refine ⟨x :: xs, rfl, fun z hz => ?_⟩
    rcases List.mem_cons.mp hz with rfl | hz
    · exact hx
    · exact hs z hz
theorem sat_atD {xs : List P} {r : Int} {s : Store} {Q : D → Store → Prop} (h0 : 0 ≤ r) (h1 : r < xs.length) (q : ∀ y, y ∈ xs → Q (.p y) s) : (Res.ofO (L2.atI (xs.map D.p) r) s).sat Q := by
  obtain ⟨k, rfl⟩ := Int.eq_ofNat_of_zero_le h0
  have hk : k < xs.length := by omega
  refine sat_ofO (x := D.p xs[k]) ?_ (q _ (List.getElem_mem hk))
  rw [atI_nat, List.getElem?_map, List.getElem?_eq_getElem hk]
  rfl
theorem rng_mem {lo : Int} {n : Nat} {p : P} (h : p ∈ rngI lo n) : ∃ k : Int, p = .int k ∧ lo ≤ k ∧ k < lo + n := by
  unfold rngI at h
  obtain ⟨k, hk, rfl⟩ := List.mem_map.mp h
  exact ⟨_, rfl, by omega, by have := List.mem_range.mp hk; omega⟩

theorem sh_row {n : Nat} {r : List Int} (h : RowOk n r) (hn : n ≤ 5) : Sh 1 60 (rowP r) := by
  have := sh_tup (k := 0) (w := 11) (xs := r.map PyData.int) (fun x hx => by
    obtain ⟨v, hv, rfl⟩ := List.mem_map.mp hx
    have := h.val v hv
    exact sh_int (by decide) (by decide) (by omega))
  refine this.mono (Nat.le_refl _) ?_
  rw [List.length_map, h.len]
  omega
theorem gd_rows {rs : List P} (h : ∀ r, r ∈ rs → ∃ vs n, r = rowP vs ∧ RowOk n vs ∧ n ≤ 5) : Gd 2 (.list rs) := gd_list fun x hx => by
  obtain ⟨vs, n, rfl, ok, hn⟩ := h x hx
  exact (sh_row ok hn).gd
/-- the loop's names -/
def tblE (i : Nat) (m w sp : Int) (l : Nat) (a b : Int) (t u : Option D) : Env := [some (.loc i), some (.p (.int m)), some (.p (.int w)), some (.p (.int sp)), some (.loc l), t, some (.p (.int a)), some (.p (.int b)), u]
structure TblI (s : Store) (i : Nat) (m w sp a b : Int) (xs : List P) (σ : Env) (st : Store) : Prop where
  ex : ∃ (s4 : Store) (fs : List P) (t u : Option D), Drawn i s s4 ∧ st = s4 ++ [.lst (fs.map D.p)] ∧ fs.length + xs.length = b.toNat ∧ (∀ r, r ∈ fs → ∃ vs, r = rowP vs ∧ RowOk a.toNat vs) ∧ σ = tblE i m w sp s.length a b t u
section
variable {T : Tab} {L : Nat → Bool}
theorem law_table_own (HP : HPool T L) (n : Nat) {s s5 : Store} {i : Nat} {m w sp a b : Int} {t u : Option D} {fs r : List P} (sp0 : 0 < sp) (sp1 : sp ≤ 1000) (a0 : 0 ≤ a) (a1 : a ≤ 5) (b1 : b ≤ 30) (hl : fs.length + r.length + 1 = b.toNat) (hf : ∀ r, r ∈ fs → ∃ vs, r = rowP vs ∧ RowOk a.toNat vs) (d5 : Drawn i s s5) :
    SR.sat (evSs (callF T L (n + 1)) s.length (.cons (.expr (.mth .append (.var 4) (.cons (.blt .tuple (.cons (.comp (.bin .sub (.call 9 (.cons (.var 0) (.cons (.var 3) .nil))) (.bin .fdiv (.var 3) (.lit (.int 2)))) (.name 8) (.rng1 (.var 6)) .none) .nil)) .nil))) .nil) (tblE i m w sp s.length a b t u) (s5 ++ [.lst (fs.map D.p)])) (TblI s i m w sp a b r) (fun _ _ => False) := by
  have hlt := d5.lt
  have r5 := rd_app_r (s := s5) (ls := [.lst (fs.map D.p)]) (n := s.length) (k := 0) (by rw [d5.len]; rfl)
  have ra := rngOk_ok (i := a) (by omega) (by omega)
  simp [tblE, r5, ra]
  try simp only [sat_fin, sat_nxt, sat_st, sat_and]
  refine (comp_sat (fun xs acc st => ∃ s6, Drawn i s s6 ∧ st = s6 ++ [.lst (fs.map D.p)] ∧ acc.length + xs.length = a.toNat ∧ ∀ v, v ∈ acc → ∃ j : Int, v = .int j ∧ -1000 ≤ j ∧ j ≤ 1000)
    ⟨s5, d5, rfl, by simp [rngI], fun v hv => by cases hv⟩ ?_).imp ?_
  · rintro x r acc st ⟨s6, d6, rfl, hl2, hv⟩
    simp [turnE_app]
    try simp only [sat_and]
    refine (draw HP n (d6.ok.app _) sp0 (by omega)).imp ?_
    rintro _ st2 ⟨j, rfl, j0, j1, d7⟩
    obtain ⟨s7, d8, rfl⟩ := d7.app (by rw [d6.len]; exact hlt)
    have e2 := bin_fdiv (j := 2) (by omega) (by omega) sp
    simp [e2]
    simp only [List.length_cons] at hl2
    refine ⟨by omega, s7, d6.trans d8, rfl, by omega, ?_⟩
    rintro v (hv2 | rfl)
    · exact hv v hv2
    · exact ⟨_, rfl, by omega, by omega⟩
  · rintro acc st ⟨s6, d6, rfl, hl2, hv⟩
    have w6 := fun o => wr_app_r (s := s6) (ls := [.lst (fs.map D.p)]) (n := s.length) (k := 0) (by rw [d6.len]; rfl) o
    have r6 := rd_app_r (s := s6) (ls := [.lst (fs.map D.p)]) (n := s.length) (k := 0) (by rw [d6.len]; rfl)
    have lf : fs.length < 16777216 := by omega
    simp [r6, w6, lf]
    obtain ⟨vs, rfl, hvs⟩ := unmap (f := PyData.int) (p := fun j => -1000 ≤ j ∧ j ≤ 1000) hv
    refine ⟨⟨s6, fs ++ [rowP vs], t, u, d6, by simp [rowP], by simp; omega, ?_, rfl⟩⟩
    intro q hq
    rcases List.mem_append.mp hq with z | z
    · exact hf q z
    · rw [List.mem_singleton.mp z]
      simp only [List.length_nil, Nat.add_zero, List.length_map] at hl2
      exact ⟨vs, rfl, hl2, hvs⟩
theorem law_table_old (HP : HPool T L) (n : Nat) {s s5 : Store} {i : Nat} {m w sp a b : Int} {t u : Option D} {fs r : List P} (b1 : b ≤ 30) (hl : fs.length + r.length + 1 = b.toNat) (hf : ∀ r, r ∈ fs → ∃ vs, r = rowP vs ∧ RowOk a.toNat vs) (d5 : Drawn i s s5) (ne : 0 < fs.length) :
    SR.sat (evSs (callF T L (n + 1)) s.length (.cons (.expr (.mth .append (.var 4) (.cons (.idx (.var 4) (.call 9 (.cons (.var 0) (.cons (.blt .len (.cons (.var 4) .nil)) .nil)))) .nil))) .nil) (tblE i m w sp s.length a b t u) (s5 ++ [.lst (fs.map D.p)])) (TblI s i m w sp a b r) (fun _ _ => False) := by
  have hlt := d5.lt
  have r5 := rd_app_r (s := s5) (ls := [.lst (fs.map D.p)]) (n := s.length) (k := 0) (by rw [d5.len]; rfl)
  simp [tblE, r5]
  try simp only [sat_fin, sat_nxt, sat_st, sat_and]
  refine (draw HP n (d5.ok.app _) (by omega) (by omega)).imp ?_
  rintro _ st2 ⟨j, rfl, j0, j1, d7⟩
  obtain ⟨s6, d6, rfl⟩ := d7.app (by rw [d5.len]; exact hlt)
  replace d6 := d5.trans d6
  have w6 := fun o => wr_app_r (s := s6) (ls := [.lst (fs.map D.p)]) (n := s.length) (k := 0) (by rw [d6.len]; rfl) o
  have r6 := rd_app_r (s := s6) (ls := [.lst (fs.map D.p)]) (n := s.length) (k := 0) (by rw [d6.len]; rfl)
  have lf : fs.length < 16777216 := by omega
  simp [r6]
  try simp only [sat_fin, sat_nxt, sat_st, sat_and]
  refine sat_atD j0 j1 fun y hy => ?_
  simp [r6, w6, lf]
  refine ⟨⟨s6, fs ++ [y], t, u, d6, by simp, by simp; omega, ?_, rfl⟩⟩
  intro q hq
  rcases List.mem_append.mp hq with z | z
  · exact hf q z
  · rw [List.mem_singleton.mp z]
    exact hf y hy
theorem law_table (HP : HPool T L) (h10 : T 10 = some o10) (n : Nat) {s : Store} {i : Nat} {m w : Int} (h : PoolOk s i) (m0 : 0 < m) (m1 : m ≤ 30) (w0 : 0 < w) (w1 : w ≤ 5) :
    (callF T L (n + 2) 10 [.loc i, .p (.int m), .p (.int w)] s).sat fun d s' => Drawn i s s' ∧ ∃ (rs : List (List Int)) (c : Nat), d = .p (tabP rs) ∧ RowsOk c rs ∧ 1 ≤ c ∧ (c : Int) ≤ w ∧ (rs.length : Int) ≤ m := by
  rw [callF_app h10 _ _ rfl]
  simp [o10]
  try simp only [sat_fin, sat_nxt, sat_st, sat_and]
  refine (draw HP n h w0 (by omega)).imp ?_
  rintro _ s1 ⟨a, rfl, a0, a1, d1⟩
  simp
  try simp only [sat_fin, sat_nxt, sat_st, sat_and]
  refine (draw HP n d1.ok m0 (by omega)).imp ?_
  rintro _ s2 ⟨b, rfl, b0, b1, d2⟩
  replace d2 := d1.trans d2
  simp
  try simp only [sat_fin, sat_nxt, sat_st, sat_and]
  refine (draw HP n d2.ok (by omega) (by omega)).imp ?_
  rintro _ s3 ⟨c, rfl, c0, c1, d3⟩
  replace d3 := d2.trans d3
  simp
  try simp only [sat_fin, sat_nxt, sat_st, sat_and]
  refine sat_atI c0 (by simpa using c1) fun y hy => ?_
  obtain ⟨sp, rfl, sp0, sp1⟩ : ∃ sp : Int, y = .int sp ∧ 0 < sp ∧ sp ≤ 1000 := by
    simp only [List.mem_cons, List.not_mem_nil, or_false] at hy
    rcases hy with rfl | rfl | rfl | rfl <;> exact ⟨_, rfl, by decide, by decide⟩
  have rk := rngOk_ok (i := 1 + b) (by omega) (by omega)
  simp [d3.len, rk]
  try simp only [sat_fin, sat_nxt, sat_st, sat_and]
  refine (for_sat (TblI s i m w sp (1 + a) (1 + b)) ⟨s3, [], none, none, d3, rfl, by simp [rngI], fun r hr => (by cases hr), rfl⟩ ?_).imp ?_ fun _ _ h => h
  · rintro x r σ st ⟨s4, fs, t, u, d4, rfl, hl, hf, rfl⟩
    have r1 := rd_app_r (s := s4) (ls := [.lst (fs.map D.p)]) (n := s.length) (k := 0) (by rw [d4.len]; rfl)
    have gf := gd_rows fun r hr => by
      obtain ⟨vs, e, ok⟩ := hf r hr
      exact ⟨vs, _, e, ok, by omega⟩
    have e1 := eqP_g gf (gd_list (xs := []) (k := 1) fun x hx => by cases hx) (by decide)
    rw [eqv_list_nil] at e1
    have hlen : fs.length + r.length + 1 = (1 + b).toNat := by simpa [Nat.add_assoc] using hl
    rw [turnS_app]
    have es : setV (tblE i m w sp s.length (1 + a) (1 + b) t u) 5 (.p x) = tblE i m w sp s.length (1 + a) (1 + b) (some (.p x)) u := rfl
    simp only [evt_name, es, calm_ok, st_ok, evss_cons, sat_nxt, es_ife, sat_st, evss_nil, sat_nx]
    refine Res.sat.imp (Q := fun c st => ∃ s5, Drawn i s s5 ∧ st = s5 ++ [.lst (fs.map D.p)] ∧ (c = true → 0 < fs.length)) ?_ ?_
    · cases he : fs.isEmpty with
      | true =>
        rw [he] at e1
        simp [tblE, r1, e1]
        exact d4
      | false =>
        rw [he] at e1
        have hne : 0 < fs.length := by cases fs <;> simp at he ⊢
        simp [tblE, r1, e1]
        try simp only [sat_fin, sat_nxt, sat_st, sat_and]
        refine (draw HP n (d4.ok.app _) (by omega) (by omega)).imp ?_
        rintro _ st2 ⟨j, rfl, j0, j1, d7⟩
        obtain ⟨s6, d6, rfl⟩ := d7.app d4.lt'
        simp
        first | exact ⟨s6, d4.trans d6, rfl, fun _ => hne⟩ | exact ⟨d4.trans d6, fun _ => hne⟩
    · rintro c st ⟨s5, d5, rfl, hc⟩
      rw [kIfe_app]
      cases c with
      | true => exact (law_table_old HP n (by omega) hlen hf d5 (hc rfl)).imp (fun _ _ h => h) fun _ _ h => h.elim
      | false => exact (law_table_own HP n sp0 sp1 (by omega) (by omega) (by omega) hlen hf d5).imp (fun _ _ h => h) fun _ _ h => h.elim
  · rintro σ st ⟨s4, fs, t, u, d4, rfl, hl, hf, rfl⟩
    have r1 := rd_app_r (s := s4) (ls := [.lst (fs.map D.p)]) (n := s.length) (k := 0) (by rw [d4.len]; rfl)
    have e : List.take s.length (s4 ++ [.lst (fs.map D.p)]) = s4 := by rw [← d4.len, List.take_left]
    simp [tblE, r1, e]
    obtain ⟨rs, rfl, hrs⟩ := unmap hf
    simp only [List.length_nil, Nat.add_zero, List.length_map] at hl
    exact ⟨d4, rs, rfl, (1 + a).toNat, ⟨by omega, by omega, hrs⟩, by omega, by omega, by omega⟩
end
end Ev


end
section
namespace Own
open Ev
/-- is_integer -/
def o16 : FD := ⟨3, 3, (.cons (.ret (.and (.call 0 (.cons (.var 0) .nil)) (.chain .le .le (.var 1) (.var 0) (.var 2)))) .nil)⟩
/-- is_direction -/
def o17 : FD := ⟨1, 1, (.cons (.ret (.and (.isi (.var 0) [.str]) (.cmp .isin (.var 0) (.lit (.tuple [(.str "up"), (.str "down")]))))) .nil)⟩
/-- is_key -/
def o18 : FD := ⟨1, 1, (.cons (.ife (.or (.not (.isi (.var 0) [.tuple])) (.cmp .ne (.blt .len (.cons (.var 0) .nil)) (.lit (.int 2)))) (.cons (.ret (.lit (.bool false))) .nil) .nil) (.cons (.ret (.and (.call 16 (.cons (.idx (.var 0) (.lit (.int 0))) (.cons (.lit (.int 0)) (.cons (.bin .sub (.lit (.int 4)) (.lit (.int 1))) .nil)))) (.call 17 (.cons (.idx (.var 0) (.lit (.int 1))) .nil)))) .nil))⟩
/-- is_place_key -/
def o19 : FD := ⟨1, 1, (.cons (.ife (.or (.not (.isi (.var 0) [.tuple])) (.cmp .ne (.blt .len (.cons (.var 0) .nil)) (.lit (.int 2)))) (.cons (.ret (.lit (.bool false))) .nil) .nil) (.cons (.ret (.and (.isi (.idx (.var 0) (.lit (.int 0))) [.str]) (.and (.cmp .eq (.idx (.var 0) (.lit (.int 0))) (.lit (.str "place"))) (.call 17 (.cons (.idx (.var 0) (.lit (.int 1))) .nil))))) .nil))⟩
/-- first_fault -/
def o20 : FD := ⟨1, 6, (.cons (.asg (.star .nil 5 (.cons (.name 2) .nil)) (.var 0)) (.cons (.asgL 1 (.lst .nil)) (.cons (.for (.tup (.cons (.name 3) (.cons (.name 4) .nil))) (.enum (.var 5)) (.cons (.ife (.or (.not (.call 18 (.cons (.var 4) .nil))) (.cmp .isin (.idx (.var 4) (.lit (.int 0))) (.var 1))) (.cons (.ret (.var 3)) .nil) .nil) (.cons (.expr (.mth .append (.var 1) (.cons (.idx (.var 4) (.lit (.int 0))) .nil))) .nil))) (.cons (.ret (.ite (.call 19 (.cons (.var 2) .nil)) (.lit .none) (.blt .len (.cons (.var 5) .nil)))) .nil))))⟩
/-- is_order -/
def o21 : FD := ⟨1, 1, (.cons (.ret (.and (.isi (.var 0) [.tuple]) (.and (.cmp .ne (.var 0) (.tup .nil)) (.cmp .is (.call 20 (.cons (.var 0) .nil)) (.lit .none))))) .nil)⟩
/-- _law_order -/
def o22 : FD := ⟨2, 5, (.cons (.par [3, 4] (.cons (.opn (.lstI (.rng1 (.var 1)))) (.cons (.opn (.lst .nil)) .nil))) (.cons (.for (.name 2) (.rng1 (.call 9 (.cons (.var 0) (.cons (.bin .add (.var 1) (.lit (.int 1))) .nil)))) (.cons (.expr (.mth .append (.var 4) (.cons (.tup (.cons (.mth .popAt (.var 3) (.cons (.call 9 (.cons (.var 0) (.cons (.blt .len (.cons (.var 3) .nil)) .nil))) .nil)) (.cons (.idx (.lst (.cons (.lit (.str "up")) (.cons (.lit (.str "down")) .nil))) (.call 9 (.cons (.var 0) (.cons (.lit (.int 2)) .nil)))) .nil))) .nil))) .nil)) (.cons (.ret (.bin .add (.blt .tuple (.cons (.var 4) .nil)) (.tup (.cons (.tup (.cons (.lit (.str "place")) (.cons (.idx (.lst (.cons (.lit (.str "up")) (.cons (.lit (.str "down")) .nil))) (.call 9 (.cons (.var 0) (.cons (.lit (.int 2)) .nil)))) .nil))) .nil)))) .nil)))⟩
end Own
namespace Own
open Ev
/-- opposite -/
def o27 : FD := ⟨1, 1, (.cons (.ret (.ite (.cmp .eq (.var 0) (.lit (.str "up"))) (.lit (.str "down")) (.lit (.str "up")))) .nil)⟩
/-- check_order -/
def o28 : FD := ⟨1, 2, (.cons (.ife (.or (.not (.isi (.var 0) [.tuple])) (.cmp .eq (.var 0) (.tup .nil))) (.cons .stop .nil) .nil) (.cons (.asg (.name 1) (.call 20 (.cons (.var 0) .nil))) (.cons (.ife (.cmp .isnot (.var 1) (.lit .none)) (.cons .stop .nil) .nil) .nil)))⟩
/-- turned_order -/
def o29 : FD := ⟨1, 3, (.cons (.ret (.blt .tuple (.cons (.comp (.tup (.cons (.var 1) (.cons (.call 27 (.cons (.var 2) .nil)) .nil))) (.tup (.cons (.name 1) (.cons (.name 2) .nil))) (.e (.var 0)) .none) .nil))) .nil)⟩
/-- turned -/
def o30 : FD := ⟨1, 1, (.cons (.expr (.call 28 (.cons (.var 0) .nil))) (.cons (.ret (.call 29 (.cons (.var 0) .nil))) .nil))⟩
end Own
namespace Ev
open PySem PySem.Spec PyProof.Rows L2 Own
/-! ### orders -/
def dirP (u : Bool) : P := .str (if u then "up" else "down")
def keyP (k : Int × Bool) : P := .tuple [.int k.1, dirP k.2]
def plP (u : Bool) : P := .tuple [.str "place", dirP u]
def ordP (ks : List (Int × Bool)) (u : Bool) : P := .tuple (ks.map keyP ++ [plP u])
structure KeysOk (m : Int) (ks : List (Int × Bool)) : Prop where
  nod : (ks.map (·.1)).Nodup
  rng : ∀ k, k ∈ ks → 0 ≤ k.1 ∧ k.1 < m
structure HOrd (T : Tab) : Prop where
  v : T 0 = some o0
  i : T 16 = some o16
  d : T 17 = some o17
  k : T 18 = some o18
  p : T 19 = some o19
  f : T 20 = some o20
theorem gd_lit {x : Str} (h : PyData.strOk x = true) : Gd 0 (.str x) := gd_str x h
theorem dir_ok (u : Bool) : Gd 0 (dirP u) := by cases u <;> exact gd_str _ (str_lit _)
theorem sh_dir (u : Bool) : Sh 0 4 (dirP u) := by cases u <;> exact sh_str (str_lit _) (by decide)
theorem eq_dir (a b : Bool) : eqP (dirP a) (dirP b) = some (decide (a = b)) := by
  rw [eqP_g (dir_ok a) (dir_ok b) (by decide)]
  cases a <;> cases b <;> (simp only [dirP, PyData.eqv]; decide)
@[simp] theorem eq_up (a : Bool) : eqP (dirP a) (.str "up") = some a := by
  rw [show (PyData.str "up") = dirP true from rfl, eq_dir]
  cases a <;> rfl
@[simp] theorem ty_dir_str (a : Bool) : tyP (dirP a) .str = true := rfl
theorem in_dir (a : Bool) : inP (dirP a) (.tuple [.str "up", .str "down"]) = some true := by
  have h1 := (dir_ok a).shaped (by decide)
  have h2 := (gd_tup (k := 0) (xs := [.str "up", .str "down"]) (fun x hx => by
    simp only [List.mem_cons, List.not_mem_nil, or_false] at hx
    rcases hx with rfl | rfl <;> exact gd_str _ (str_lit _))).shaped (by decide)
  show (if SeqAt.shaped (dirP a) && SeqAt.shaped (.tuple [.str "up", .str "down"]) then some ([PyData.str "up", .str "down"].any fun z => PyData.eqv z (dirP a)) else none) = _
  rw [h1, h2]
  cases a <;> (simp only [dirP, List.any_cons, PyData.eqv, List.any_nil]; decide)
section
variable {T : Tab} {L : Nat → Bool}
theorem is_integer (H : HOrd T) (n : Nat) (i a b : Int) (s : Store) : callF T L (n + 2) 16 [.p (.int i), .p (.int a), .p (.int b)] s = .ok (.p (.bool (decide (a ≤ i) && decide (i ≤ b)))) s := by
  rw [callF_app H.i _ _ rfl]
  have e := callF_app (k := n) (L := L) H.v [.p (.int i)] s rfl
  have e2 : callF T L (n + 1) 0 [.p (.int i)] s = .ok (.p (.bool true)) s := by rw [e]; simp [o0, tyP]
  by_cases h : a ≤ i <;> simp [o16, e2, h]
theorem is_direction (H : HOrd T) (n : Nat) (u : Bool) (s : Store) : callF T L (n + 1) 17 [.p (dirP u)] s = .ok (.p (.bool true)) s := by
  rw [callF_app H.d _ _ rfl]
  simp [o17, in_dir]
theorem is_key (H : HOrd T) (n : Nat) {k : Int × Bool} (h : 0 ≤ k.1 ∧ k.1 < 4) (s : Store) : callF T L (n + 3) 18 [.p (keyP k)] s = .ok (.p (.bool true)) s := by
  rw [callF_app H.k _ _ rfl]
  have h1 := h.1
  have h2 : k.1 ≤ 3 := by omega
  simp [o18, keyP, tyP, is_integer H, is_direction H, h1, h2]
theorem eq_place : eqP (.str "place") (.str "place") = some true := by
  rw [eqP_g (gd_str _ (str_lit _)) (gd_str _ (str_lit _)) (by decide : (0 : Nat) ≤ 64)]
  simp only [PyData.eqv]
  decide
theorem is_place_key (H : HOrd T) (n : Nat) (u : Bool) (s : Store) : callF T L (n + 2) 19 [.p (plP u)] s = .ok (.p (.bool true)) s := by
  rw [callF_app H.p _ _ rfl]
  simp [o19, plP, tyP, is_direction H, eq_place]
theorem inP_ints (k : Int) (ns : List Int) : inP (.int k) (.list (ns.map PyData.int)) = some (decide (k ∈ ns)) := by
  have h1 := (gd_int k).shaped (by decide)
  have h2 := (gd_list (k := 0) (xs := ns.map PyData.int) (fun x hx => by
    obtain ⟨v, _, rfl⟩ := List.mem_map.mp hx
    exact gd_int v)).shaped (by decide)
  show (if SeqAt.shaped (.int k) && SeqAt.shaped (.list (ns.map PyData.int)) then some ((ns.map PyData.int).any fun z => PyData.eqv z (.int k)) else none) = _
  rw [h1, h2]
  simp only [Bool.and_self, if_true, Option.some.injEq]
  rw [List.any_map, Bool.eq_iff_iff, List.any_eq_true, decide_eq_true_eq]
  constructor
  · rintro ⟨x, hx, e⟩
    simp only [Function.comp, PyData.eqv, beq_iff_eq] at e
    rw [← e]; exact hx
  · intro h
    exact ⟨k, h, by simp only [Function.comp, PyData.eqv, beq_self_eq_true]⟩
theorem ord_first (ks : List (Int × Bool)) (u : Bool) : ((ks.map keyP ++ [plP u]).take ((ks.map keyP ++ [plP u]).length - 0 - 1)) = ks.map keyP := by
  rw [List.length_append, List.length_singleton, Nat.sub_zero, Nat.add_sub_cancel, List.take_left]
theorem first_fault_ok (H : HOrd T) (n : Nat) {ks : List (Int × Bool)} {u : Bool} (h : KeysOk 4 ks) (hl : ks.length ≤ 1000) (s : Store) : callF T L (n + 4) 20 [.p (ordP ks u)] s = .ok (.p .none) s := by
  suffices g : (callF T L (n + 4) 20 [.p (ordP ks u)] s).sat fun d s' => d = .p .none ∧ s' = s by
    obtain ⟨d, s', e, rfl, rfl⟩ := sat_ex g
    exact e
  rw [callF_app H.f _ _ rfl]
  have e1 : (ks.map keyP ++ [plP u]).length = ks.length + 1 := by simp
  have e2 : List.drop (ks.length + 1 - 1) (ks.map keyP ++ [plP u]) = [plP u] := by
    rw [Nat.add_sub_cancel, show ks.length = (ks.map keyP).length by simp, List.drop_left]
  have e3 : List.take (ks.length + 1 - 1) (ks.map keyP ++ [plP u]) = ks.map keyP := by
    rw [Nat.add_sub_cancel, show ks.length = (ks.map keyP).length by simp, List.take_left]
  simp [o20, ordP, e2, e3]
  try simp only [sat_fin, sat_nxt, sat_st, sat_and]
  refine (for_enum (fun k rs σ st => ∃ (done rest : List (Int × Bool)) (x y : Option D), ks = done ++ rest ∧ rs = rest.map keyP ∧ st = s ++ [.lst (((done.map (·.1)).map PyData.int).map D.p)] ∧
      σ = [some (.p (.tuple (ks.map keyP ++ [plP u]))), some (.loc s.length), some (.p (plP u)), x, y, some (.p (.list (ks.map keyP)))])
    ⟨[], ks, none, none, rfl, rfl, rfl, rfl⟩ ?_).imp ?_ fun _ _ h => h
  · rintro k r rs σ st ⟨done, rest, x, y, e, er, rfl, rfl⟩
    cases rest with
    | nil => cases er
    | cons kk rest =>
      simp only [List.map_cons, List.cons.injEq] at er
      obtain ⟨rfl, rfl⟩ := er
      have hk := h.rng kk (by rw [e]; simp)
      have hnot : kk.1 ∉ done.map (·.1) := by
        have := h.nod
        rw [e, List.map_append, List.map_cons, List.nodup_append] at this
        intro hm
        exact this.2.2 _ hm _ List.mem_cons_self rfl
      have i1 := is_key (L := L) H n hk
      have i2 : idxP (keyP kk) (.int 0) = some (.int kk.1) := rfl
      have r1 := rd_app_r (s := s) (ls := [.lst (((done.map (·.1)).map PyData.int).map D.p)]) (n := s.length) (k := 0) rfl
      have w1 := fun o => wr_app_r (s := s) (ls := [.lst (((done.map (·.1)).map PyData.int).map D.p)]) (n := s.length) (k := 0) rfl o
      have i3 := inP_ints kk.1 (done.map (·.1))
      rw [decide_eq_false hnot] at i3
      have hd : done.length < 16777216 := by
        have := congrArg List.length e
        simp at this
        omega
      generalize hg : (done.map (·.1)).map PyData.int = ds at *
      have hgl : ds.length = done.length := by rw [← hg]; simp
      have hdl : ds.length < 16777216 := by omega
      simp [turnS_app, i1, i2, r1, w1, i3, hdl]
      refine ⟨done ++ [kk], rest, e.trans (by simp), rfl, ?_⟩
      simp [← hg]
  · rintro σ st ⟨k, done, rest, x, y, e, er, rfl, rfl⟩
    simp [is_place_key H]
theorem erase_perm : ∀ {l : List Int} {q : Nat} (hq : q < l.length), (l[q] :: l.eraseIdx q).Perm l
  | _ :: _, 0, _ => List.Perm.refl _
  | a :: l, q + 1, h => ((List.Perm.swap a _ _).trans ((erase_perm (l := l) (q := q) (by simpa using h)).cons a))
theorem erase_map {α β : Type} (f : α → β) : ∀ (l : List α) (q : Nat), (l.map f).eraseIdx q = (l.eraseIdx q).map f
  | [], _ => rfl
  | _ :: _, 0 => rfl
  | a :: l, q + 1 => by
    show f a :: (l.map f).eraseIdx q = f a :: (l.eraseIdx q).map f
    rw [erase_map f l q]
structure IsOrd (m : Int) (d : D) : Prop where
  ex : ∃ ks u, d = .p (ordP ks u) ∧ KeysOk m ks ∧ ks.length ≤ 4
/-- the loop's names of the drawn order -/
structure OrdI (s : Store) (i : Nat) (m : Int) (xs : List P) (σ : Env) (st : Store) : Prop where
  ex : ∃ (s4 : Store) (lf : List Int) (ks : List (Int × Bool)) (t : Option D), Drawn i s s4 ∧ st = s4 ++ [.lst ((lf.map PyData.int).map D.p), .lst ((ks.map keyP).map D.p)] ∧ xs.length ≤ lf.length ∧ (ks.map (·.1) ++ lf).Nodup ∧
    (∀ k, k ∈ ks.map (·.1) ++ lf → 0 ≤ k ∧ k < m) ∧ lf.length + ks.length ≤ 4 ∧ σ = [some (.loc i), some (.p (.int m)), t, some (.loc s.length), some (.loc (s.length + 1))]
theorem ord_append (cf : CF) (b : Nat) (o x : D) (s : Store) : mthD b .append o [x] s = Res.and (lstAt o s) (kApp b x) := mth_append s b o x
theorem dir_at {r : Int} (h0 : 0 ≤ r) (h1 : r < 2) : L2.atI [PyData.str "up", .str "down"] r = some (dirP (decide (r = 0))) := by
  have : r = 0 ∨ r = 1 := by omega
  rcases this with rfl | rfl <;> simp [dirP]
theorem law_order (HP : HPool T L) (h22 : T 22 = some o22) (n : Nat) {s : Store} {i : Nat} {m : Int} (h : PoolOk s i) (m0 : 0 < m) (m1 : m ≤ 4) :
    (callF T L (n + 2) 22 [.loc i, .p (.int m)] s).sat fun d s' => Drawn i s s' ∧ IsOrd m d := by
  rw [callF_app h22 _ _ rfl]
  have rk := rngOk_ok (i := m) (by omega) (by omega)
  have lm : (rngI 0 m.toNat).length ≤ 16777216 := by simp [rngI]; omega
  have lm2 : m.toNat ≤ 16777216 := by omega
  have hlt := h.lt
  simp [o22, rk, rng_len, lm2]
  try simp only [sat_fin, sat_nxt, sat_st, sat_and]
  refine (draw HP n (h.app _) (by omega) (by omega)).imp ?_
  rintro _ st ⟨a, rfl, a0, a1, d1⟩
  obtain ⟨s1, d2, rfl⟩ := d1.app hlt
  have ra := rngOk_ok (i := a) (by omega) (by omega)
  simp [ra]
  try simp only [sat_fin, sat_nxt, sat_st, sat_and]
  have hrg : rngI 0 m.toNat = ((List.range m.toNat).map fun (k : Nat) => (k : Int)).map PyData.int := by
    unfold rngI
    rw [List.map_map]
    apply List.map_congr_left
    intro k _
    show PyData.int (0 + (k : Int)) = PyData.int (k : Int)
    rw [Int.zero_add]
  refine (for_sat (OrdI s i m) ⟨s1, (List.range m.toNat).map fun (k : Nat) => (k : Int), [], none, d2, by rw [hrg]; rfl, by simp [rngI]; omega, ?_, ?_, by simp; omega, rfl⟩ ?_).imp ?_ fun _ _ h => h
  · rw [List.map_nil, List.nil_append]
    have := List.nodup_range (n := m.toNat)
    exact List.Pairwise.map _ (fun a b hab z => hab (by exact_mod_cast z)) this
  · intro k hk
    rw [List.map_nil, List.nil_append] at hk
    obtain ⟨j, hj, rfl⟩ := List.mem_map.mp hk
    have := List.mem_range.mp hj
    omega
  · rintro x r σ st ⟨s4, lf, ks, t, d4, rfl, hl, nd, rg, hlen, rfl⟩
    simp only [List.length_cons] at hl
    have hne : 0 < lf.length := by omega
    have lf4 : lf.length ≤ 4 := by omega
    have R := fun s5 (d5 : Drawn i s s5) => rd_app_r (s := s5) (ls := [.lst ((lf.map PyData.int).map D.p), .lst ((ks.map keyP).map D.p)]) (n := s.length) (k := 0) (by rw [d5.len]; rfl)
    have r4 := R s4 d4
    generalize hlf : lf.map PyData.int = lfp at *
    generalize hkp : ks.map keyP = kp at *
    have kpl : kp.length = ks.length := by rw [← hkp, List.length_map]
    have lfl : lfp.length = lf.length := by rw [← hlf, List.length_map]
    simp [turnS_app, r4, rd_app_r (s := s4) (n := s.length + 1) (k := 1) (by rw [d4.len])]
    try simp only [sat_fin, sat_nxt, sat_st, sat_and]
    refine (draw HP n (d4.ok.app _) (by omega) (by omega)).imp ?_
    rintro _ st ⟨j, rfl, j0, j1, d7⟩
    obtain ⟨s5, d5, rfl⟩ := d7.app d4.lt'
    replace d5 := d4.trans d5
    rw [lfl] at j1
    obtain ⟨q, hjq⟩ : ∃ q, j.toNat = q := ⟨_, rfl⟩
    have hq : q < lf.length := by omega
    have gq : (lfp.map D.p)[j.toNat]? = some (.p (.int lf[q])) := by
      rw [← hlf, hjq]
      simp [hq]
    have pa := kPopAt_ok (s5 ++ [.lst (lfp.map D.p), .lst (kp.map D.p)]) (l := s.length) j0 (by omega) gq
    simp [R s5 d5, pa, wr_app_r (s := s5) (n := s.length) (k := 0) (by rw [d5.len]; rfl)]
    try simp only [sat_fin, sat_nxt, sat_st, sat_and]
    refine (draw HP n (d5.ok.app _) (by omega) (by omega)).imp ?_
    rintro _ st ⟨v, rfl, v0, v1, d8⟩
    obtain ⟨s6, d6, rfl⟩ := d8.app d5.lt'
    replace d6 := d5.trans d6
    have lks : kp.length < 16777216 := by omega
    simp [dir_at v0 v1, rd_app_r (s := s6) (n := s.length + 1) (k := 1) (by rw [d6.len]), wr_app_r (s := s6) (n := s.length + 1) (k := 1) (by rw [d6.len]), lks]
    have pm : (lf[q] :: lf.eraseIdx q).Perm lf := erase_perm hq
    refine ⟨⟨s6, lf.eraseIdx q, ks ++ [(lf[q], decide (v = 0))], some (.p x), d6, ?_, ?_, ?_, ?_, ?_, rfl⟩⟩
    · rw [hjq, ← hlf, ← hkp]
      simp [erase_map, keyP]
    · rw [List.length_eraseIdx_of_lt hq]; omega
    · have p2 : (List.map (·.1) (ks ++ [(lf[q], decide (v = 0))]) ++ lf.eraseIdx q).Perm (List.map (·.1) ks ++ lf) := by
        rw [List.map_append, List.append_assoc]
        exact List.Perm.append_left _ pm
      exact p2.nodup_iff.mpr nd
    · intro k hk
      apply rg k
      rcases List.mem_append.mp hk with z | z
      · rw [List.map_append] at z
        rcases List.mem_append.mp z with z | z
        · exact List.mem_append_left _ z
        · exact List.mem_append_right _ (by
            have : k = lf[q] := by simpa using z
            rw [this]
            exact List.getElem_mem hq)
      · exact List.mem_append_right _ (List.mem_of_mem_eraseIdx z)
    · rw [List.length_eraseIdx_of_lt hq, List.length_append, List.length_singleton]; omega
  · rintro σ st ⟨s4, lf, ks, t, d4, rfl, hl, nd, rg, hlen, rfl⟩
    generalize hkp : ks.map keyP = kp at *
    have kpl : kp.length = ks.length := by rw [← hkp, List.length_map]
    simp [rd_app_r (s := s4) (n := s.length + 1) (k := 1) (by rw [d4.len])]
    try simp only [sat_fin, sat_nxt, sat_st, sat_and]
    refine (draw HP n (d4.ok.app _) (by omega) (by omega)).imp ?_
    rintro _ st ⟨v, rfl, v0, v1, d7⟩
    obtain ⟨s5, d5, rfl⟩ := d7.app d4.lt'
    replace d5 := d4.trans d5
    have lk : kp.length + 1 ≤ 16777216 := by omega
    have e : ∀ ls : List Ob, List.take s.length (s5 ++ ls) = s5 := fun ls => by rw [← d5.len, List.take_left]
    simp [dir_at v0 v1, lk, e]
    refine ⟨d5, ⟨ks, decide (v = 0), ?_, ⟨?_, fun k hk => rg k.1 (List.mem_append_left _ (List.mem_map.mpr ⟨k, hk, rfl⟩))⟩, by omega⟩⟩
    · rw [ordP, hkp, plP]
    · exact (List.nodup_append.mp nd).1
def trn (k : Int × Bool) : Int × Bool := (k.1, !k.2)
structure HTurn (T : Tab) : Prop where
  o : T 27 = some o27
  q : T 29 = some o29
structure HTrn (T : Tab) : Prop where
  o : T 27 = some o27
  c : T 28 = some o28
  q : T 29 = some o29
  t : T 30 = some o30
theorem HTrn.tn (H : HTrn T) : HTurn T := ⟨H.o, H.q⟩
theorem opposite (H : HTurn T) (n : Nat) (u : Bool) (s : Store) : callF T L (n + 1) 27 [.p (dirP u)] s = .ok (.p (dirP (!u))) s := by
  rw [callF_app H.o _ _ rfl]
  cases u <;> simp [o27] <;> rfl
theorem turned_order (H : HTurn T) (n : Nat) {ks : List (Int × Bool)} {u : Bool} (hl : ks.length ≤ 1000) (s : Store) : callF T L (n + 2) 29 [.p (ordP ks u)] s = .ok (.p (ordP (ks.map trn) (!u))) s := by
  rw [callF_app H.q _ _ rfl]
  have hc := comp_map (f := turnE (callF T L (n + 1)) s.length [some (.p (ordP ks u)), none, none] (.tup (.cons (.var 1) (.cons (.call 27 (.cons (.var 2) .nil)) .nil))) (.tup (.cons (.name 1) (.cons (.name 2) .nil))) .none)
    (fun x => match x with
      | .tuple [a, .str d] => .tuple [a, if d = "up" then .str "down" else .str "up"]
      | x => x) (s := s) (xs := ks.map keyP ++ [plP u]) (acc := []) (fun x hx => by
      rcases List.mem_append.mp hx with h | h
      · obtain ⟨k, _, rfl⟩ := List.mem_map.mp h
        obtain ⟨k, b⟩ := k
        have o := opposite (L := L) H n b
        simp [turnE_app, keyP, o]
        cases b <;> rfl
      · rw [List.mem_singleton.mp h]
        have o := opposite (L := L) H n u
        simp [turnE_app, plP, o]
        cases u <;> rfl) (by
      simp; omega)
  have e : (ordP ks u) = .tuple (ks.map keyP ++ [plP u]) := rfl
  have it : items (ordP ks u) = some (ks.map keyP ++ [plP u]) := rfl
  simp [o29, it, hc]
  unfold ordP
  rw [List.map_map]
  congr 1
  congr 1
  · apply List.map_congr_left
    rintro ⟨k, b⟩ _
    cases b <;> rfl
  · cases u <;> rfl
theorem sh_key {k : Int × Bool} (h : -1000 ≤ k.1 ∧ k.1 ≤ 1000) : Sh 1 24 (keyP k) :=
  (sh_tup (k := 0) (w := 11) (xs := [.int k.1, dirP k.2]) (fun x hx => by
    simp only [List.mem_cons, List.not_mem_nil, or_false] at hx
    rcases hx with rfl | rfl
    · exact sh_int (by decide) (by decide) (by omega)
    · exact (sh_dir _).mono (by decide) (by decide))).mono (Nat.le_refl _) (by simp)
theorem sh_pl (u : Bool) : Sh 1 24 (plP u) :=
  (sh_tup (k := 0) (w := 5) (xs := [.str "place", dirP u]) (fun x hx => by
    simp only [List.mem_cons, List.not_mem_nil, or_false] at hx
    rcases hx with rfl | rfl
    · exact sh_str (w := 5) (str_lit _) (by decide)
    · exact (sh_dir _).mono (by decide) (by decide))).mono (Nat.le_refl _) (by simp)
theorem sh_ord {ks : List (Int × Bool)} {u : Bool} (h : ∀ k, k ∈ ks → -1000 ≤ k.1 ∧ k.1 ≤ 1000) (hl : ks.length ≤ 200) : Sh 2 5025 (ordP ks u) := by
  refine (sh_tup (k := 1) (w := 24) (xs := ks.map keyP ++ [plP u]) (fun x hx => ?_)).mono (by decide) ?_
  · rcases List.mem_append.mp hx with z | z
    · obtain ⟨k, hk, rfl⟩ := List.mem_map.mp z
      exact sh_key (h k hk)
    · rw [List.mem_singleton.mp z]; exact sh_pl u
  · simp; omega
theorem eq_ord_nil (ks : List (Int × Bool)) (u : Bool) (h : ∀ k, k ∈ ks → -1000 ≤ k.1 ∧ k.1 ≤ 1000) (hl : ks.length ≤ 200) : eqP (ordP ks u) (.tuple []) = some false := by
  rw [eqP_g (sh_ord h hl).gd ((gd_tup (k := 0) (xs := []) fun x hx => by cases hx).mono (by decide)) (by decide)]
  show some (PyData.eqv (.tuple _) _) = _
  rw [eqv_tup_nil]
  cases ks <;> rfl
theorem check_order (H : HOrd T) (h28 : T 28 = some o28) (n : Nat) {ks : List (Int × Bool)} {u : Bool} (h : KeysOk 4 ks) (hl : ks.length ≤ 4) (s : Store) : callF T L (n + 5) 28 [.p (ordP ks u)] s = .ok (.p .none) s := by
  rw [callF_app h28 _ _ rfl]
  have e := eq_ord_nil ks u (fun k hk => by have := h.rng k hk; omega) (by omega)
  have f := first_fault_ok (L := L) H n (u := u) h (by omega)
  have t : tyP (ordP ks u) .tuple = true := rfl
  simp [o28, t, e, f]
theorem turned (H : HOrd T) (H' : HTrn T) (n : Nat) {ks : List (Int × Bool)} {u : Bool} (h : KeysOk 4 ks) (hl : ks.length ≤ 4) (s : Store) : callF T L (n + 6) 30 [.p (ordP ks u)] s = .ok (.p (ordP (ks.map trn) (!u))) s := by
  rw [callF_app H'.t _ _ rfl]
  simp [o30, check_order H H'.c n h hl, turned_order H'.tn (n + 3) (show ks.length ≤ 1000 by omega)]
theorem keys_trn {m : Int} {ks : List (Int × Bool)} (h : KeysOk m ks) : KeysOk m (ks.map trn) := by
  refine ⟨?_, fun k hk => ?_⟩
  · rw [List.map_map]
    exact h.nod
  · obtain ⟨q, hq, rfl⟩ := List.mem_map.mp hk
    exact h.rng q hq
theorem trn_trn (ks : List (Int × Bool)) : (ks.map trn).map trn = ks := by
  rw [List.map_map]
  conv => rhs; rw [← List.map_id ks]
  apply List.map_congr_left
  rintro ⟨k, b⟩ _
  simp [trn]
end
end Ev


end
section
namespace Own
open Ev
/-- is_simple -/
def o69 : FD := ⟨1, 3, (.cons (.ife (.or (.not (.isi (.var 0) [.tuple])) (.or (.cmp .eq (.var 0) (.tup .nil)) (.not (.isi (.idx (.var 0) (.lit (.int 0))) [.str])))) (.cons (.ret (.lit (.bool false))) .nil) .nil) (.cons (.asg (.star (.cons (.name 1) .nil) 2 .nil) (.var 0)) (.cons (.ife (.cmp .isin (.var 1) (.tup (.cons (.lit (.str "reverse")) (.cons (.lit (.str "restore")) .nil)))) (.cons (.ret (.cmp .eq (.var 2) (.lst .nil))) .nil) .nil) (.cons (.ife (.cmp .ne (.blt .len (.cons (.var 2) .nil)) (.lit (.int 1))) (.cons (.ret (.lit (.bool false))) .nil) .nil) (.cons (.ife (.cmp .isin (.var 1) (.tup (.cons (.lit (.str "up")) (.cons (.lit (.str "down")) .nil)))) (.cons (.ret (.call 16 (.cons (.idx (.var 2) (.lit (.int 0))) (.cons (.lit (.int 0)) (.cons (.bin .sub (.lit (.int 4)) (.lit (.int 1))) .nil))))) .nil) .nil) (.cons (.ret (.and (.cmp .isin (.var 1) (.tup (.cons (.lit (.str "first")) (.cons (.lit (.str "last")) .nil)))) (.call 16 (.cons (.idx (.var 2) (.lit (.int 0))) (.cons (.lit (.int 2)) (.cons (.lit (.int 29)) .nil)))))) .nil))))))⟩
/-- commands_in -/
def o70 : FD := ⟨2, 7, (.cons (.ife (.call 69 (.cons (.var 0) .nil)) (.cons (.ret (.lit (.int 1))) .nil) .nil) (.cons (.ife (.or (.not (.isi (.var 0) [.tuple])) (.or (.cmp .ne (.blt .len (.cons (.var 0) .nil)) (.lit (.int 3))) (.not (.isi (.idx (.var 0) (.lit (.int 0))) [.str])))) (.cons (.ret (.lit (.int 0))) .nil) .nil) (.cons (.asg (.tup (.cons (.name 3) (.cons (.name 4) (.cons (.name 5) .nil)))) (.var 0)) (.cons (.ife (.or (.cmp .ne (.var 3) (.lit (.str "repeat"))) (.or (.cmp .eq (.var 1) (.lit (.int 0))) (.or (.not (.call 16 (.cons (.var 4) (.cons (.lit (.int 1)) (.cons (.lit (.int 1000000000000000000000000000000)) .nil))))) (.not (.isi (.var 5) [.tuple]))))) (.cons (.ret (.lit (.int 0))) .nil) .nil) (.cons (.asg (.name 2) (.comp (.call 70 (.cons (.var 6) (.cons (.bin .sub (.var 1) (.lit (.int 1))) .nil))) (.name 6) (.e (.var 5)) .none)) (.cons (.ret (.ite (.cmp .isin (.lit (.int 0)) (.var 2)) (.lit (.int 0)) (.bin .add (.lit (.int 1)) (.blt .sum (.cons (.var 2) .nil))))) .nil))))))⟩
/-- first_invalid -/
def o71 : FD := ⟨1, 5, (.cons (.asg (.name 1) (.lit (.int 0))) (.cons (.for (.tup (.cons (.name 2) (.cons (.name 3) .nil))) (.enum (.var 0)) (.cons (.asg (.name 4) (.call 70 (.cons (.var 3) (.cons (.bin .sub (.lit (.int 4)) (.lit (.int 1))) .nil)))) (.cons (.aug 1 .add (.var 4)) (.cons (.ife (.or (.cmp .eq (.var 4) (.lit (.int 0))) (.cmp .gt (.var 1) (.lit (.int 400)))) (.cons (.ret (.var 2)) .nil) .nil) .nil)))) (.cons (.ret (.lit .none)) .nil)))⟩
/-- check_program -/
def o83 : FD := ⟨1, 2, (.cons (.ife (.not (.isi (.var 0) [.tuple])) (.cons .stop .nil) .nil) (.cons (.asg (.name 1) (.call 71 (.cons (.var 0) .nil))) (.cons (.ife (.cmp .isnot (.var 1) (.lit .none)) (.cons .stop .nil) .nil) .nil)))⟩
/-- performed -/
def o84 : FD := ⟨1, 2, (.cons (.ret (.blt .sum (.cons (.comp (.ite (.cmp .eq (.idx (.var 1) (.lit (.int 0))) (.lit (.str "repeat"))) (.bin .mul (.idx (.var 1) (.lit (.int 1))) (.call 84 (.cons (.idx (.var 1) (.lit (.int 2))) .nil))) (.lit (.int 1))) (.name 1) (.e (.var 0)) .none) .nil))) .nil)⟩
/-- count_commands -/
def o85 : FD := ⟨1, 1, (.cons (.expr (.call 83 (.cons (.var 0) .nil))) (.cons (.ret (.call 84 (.cons (.var 0) .nil))) .nil))⟩
/-- _law_steps -/
def o73 : FD := ⟨4, 9, (.cons (.asgL 4 (.lst .nil)) (.cons (.for (.name 5) (.rng1 (.call 9 (.cons (.var 0) (.cons (.bin .add (.var 1) (.lit (.int 1))) .nil)))) (.cons (.par [6, 7, 8] (.cons (.call 9 (.cons (.var 0) (.cons (.lit (.int 8)) .nil))) (.cons (.call 9 (.cons (.var 0) (.cons (.var 2) .nil))) (.cons (.bin .add (.lit (.int 2)) (.call 9 (.cons (.var 0) (.cons (.bin .sub (.var 3) (.lit (.int 1))) .nil)))) .nil)))) (.cons (.ife (.cmp .lt (.var 6) (.lit (.int 3))) (.cons (.expr (.mth .append (.var 4) (.cons (.tup (.cons (.idx (.lst (.cons (.lit (.str "up")) (.cons (.lit (.str "down")) (.cons (.lit (.str "up")) .nil)))) (.var 6)) (.cons (.var 7) .nil))) .nil))) .nil) (.cons (.ife (.cmp .eq (.var 6) (.lit (.int 3))) (.cons (.expr (.mth .append (.var 4) (.cons (.tup (.cons (.lit (.str "reverse")) .nil)) .nil))) .nil) (.cons (.ife (.cmp .eq (.var 6) (.lit (.int 4))) (.cons (.expr (.mth .append (.var 4) (.cons (.tup (.cons (.lit (.str "restore")) .nil)) .nil))) .nil) (.cons (.expr (.mth .append (.var 4) (.cons (.tup (.cons (.idx (.lst (.cons (.lit (.str "first")) (.cons (.lit (.str "last")) (.cons (.lit (.str "first")) .nil)))) (.bin .sub (.var 6) (.lit (.int 5)))) (.cons (.var 8) .nil))) .nil))) .nil)) .nil)) .nil)) .nil))) (.cons (.ret (.blt .tuple (.cons (.var 4) .nil))) .nil)))⟩
/-- _law_program -/
def o74 : FD := ⟨4, 9, (.cons (.asg (.name 4) (.call 73 (.cons (.var 0) (.cons (.lit (.int 6)) (.cons (.var 1) (.cons (.var 2) .nil)))))) (.cons (.for (.name 5) (.rng1 (.call 9 (.cons (.var 0) (.cons (.lit (.int 3)) .nil)))) (.cons (.asg (.name 6) (.call 73 (.cons (.var 0) (.cons (.lit (.int 4)) (.cons (.var 1) (.cons (.var 2) .nil)))))) (.cons (.ife (.cmp .eq (.call 9 (.cons (.var 0) (.cons (.lit (.int 3)) .nil))) (.lit (.int 0))) (.cons (.asg (.name 8) (.bin .add (.lit (.int 1)) (.call 9 (.cons (.var 0) (.cons (.var 3) .nil))))) (.cons (.asg (.name 6) (.bin .add (.var 6) (.tup (.cons (.tup (.cons (.lit (.str "repeat")) (.cons (.var 8) (.cons (.call 73 (.cons (.var 0) (.cons (.lit (.int 3)) (.cons (.var 1) (.cons (.var 2) .nil))))) .nil)))) .nil)))) .nil)) .nil) (.cons (.asg (.name 7) (.call 9 (.cons (.var 0) (.cons (.bin .add (.blt .len (.cons (.var 4) .nil)) (.lit (.int 1))) .nil)))) (.cons (.asg (.name 4) (.bin .add (.bin .add (.slc (.var 4) .none (.some (.var 7))) (.tup (.cons (.tup (.cons (.lit (.str "repeat")) (.cons (.bin .add (.lit (.int 1)) (.call 9 (.cons (.var 0) (.cons (.var 3) .nil)))) (.cons (.var 6) .nil)))) .nil))) (.slc (.var 4) (.some (.var 7)) .none))) .nil))))) (.cons (.ret (.var 4)) .nil)))⟩
end Own
namespace Ev
open PySem PySem.Spec PyProof.Rows L2 Own
/-! ### texts that are written -/
theorem lit_inj (a b : String) : (PySem.Str.ofString a = PySem.Str.ofString b) = (a = b) := by
  apply propext
  constructor
  · intro h
    rw [PySem.Str.ofString_eq_toList, PySem.Str.ofString_eq_toList] at h
    have h1 : a.toList.map Char.toNat = b.toList.map Char.toNat := by
      have := congrArg (fun x : Str => x.cps.toList) h
      simpa using this
    have inj : ∀ xs ys : List Char, xs.map Char.toNat = ys.map Char.toNat → xs = ys := by
      intro xs
      induction xs with
      | nil => intro ys h; cases ys with
        | nil => rfl
        | cons y ys => simp at h
      | cons x xs ih => intro ys h; cases ys with
        | nil => simp at h
        | cons y ys =>
          simp only [List.map_cons, List.cons.injEq] at h
          rw [ih ys h.2, Char.toNat_inj.mp h.1]
    exact String.toList_inj.mp (inj _ _ h1)
  · rintro rfl; rfl
@[simp] theorem eqP_lit (a b : String) : eqP (.str (PySem.Str.ofString a)) (.str (PySem.Str.ofString b)) = some (decide (a = b)) := by
  rw [eqP_g (gd_str _ (str_lit a)) (gd_str _ (str_lit b)) (by decide : (0 : Nat) ≤ 64)]
  simp only [PyData.eqv]
  congr 1
  rw [Bool.eq_iff_iff, beq_iff_eq, decide_eq_true_eq, lit_inj]
@[simp] theorem inP_lit2 (a b c : String) : inP (.str (PySem.Str.ofString a)) (.tuple [.str (PySem.Str.ofString b), .str (PySem.Str.ofString c)]) = some (decide (a = b) || decide (a = c)) := by
  have h1 := (gd_str _ (str_lit a)).shaped (by decide)
  have h2 := (gd_tup (k := 0) (xs := [.str (PySem.Str.ofString b), .str (PySem.Str.ofString c)]) (fun x hx => by
    simp only [List.mem_cons, List.not_mem_nil, or_false] at hx
    rcases hx with rfl | rfl <;> exact gd_str _ (str_lit _))).shaped (by decide)
  show (if SeqAt.shaped (.str (PySem.Str.ofString a)) && SeqAt.shaped (.tuple [.str (PySem.Str.ofString b), .str (PySem.Str.ofString c)]) then some ([PyData.str (PySem.Str.ofString b), .str (PySem.Str.ofString c)].any fun z => PyData.eqv z (.str (PySem.Str.ofString a))) else none) = _
  rw [h1, h2]
  simp only [Bool.and_self, if_true, List.any_cons, List.any_nil, PyData.eqv, Bool.or_false, Option.some.injEq]
  have q : ∀ x y : String, (PySem.Str.ofString x == PySem.Str.ofString y) = decide (y = x) := fun x y => by
    rw [Bool.eq_iff_iff, beq_iff_eq, decide_eq_true_eq, lit_inj]; exact eq_comm
  rw [q, q]
@[simp] theorem eqP_nn : eqP (.list []) (.list []) = some true := by
  have g := gd_list (k := 0) (xs := []) fun x hx => by cases hx
  rw [eqP_g g g (by decide), eqv_self _ g.lay]
/-! ### programs -/
inductive Sim where
  | srt (up : Bool) (c : Int) | rev | res | cut (fst : Bool) (m : Int)
inductive Cmd where
  | s (x : Sim) | r (t : Int) (b : List Cmd)
def simP : Sim → P
  | .srt u c => .tuple [.str (if u then "up" else "down"), .int c]
  | .rev => .tuple [.str "reverse"]
  | .res => .tuple [.str "restore"]
  | .cut f m => .tuple [.str (if f then "first" else "last"), .int m]
mutual
def cmdP : Cmd → P
  | .s x => simP x
  | .r t b => .tuple [.str "repeat", .int t, .tuple (cmdsP b)]
def cmdsP : List Cmd → List P
  | [] => []
  | c :: cs => cmdP c :: cmdsP cs
end
theorem cmdsP_map : ∀ cs : List Cmd, cmdsP cs = cs.map cmdP
  | [] => rfl
  | c :: cs => by simp only [cmdsP, List.map_cons, cmdsP_map cs]
def progP (cs : List Cmd) : P := .tuple (cmdsP cs)
def SimOk : Sim → Prop
  | .srt _ c => 0 ≤ c ∧ c ≤ 3
  | .cut _ m => 2 ≤ m ∧ m ≤ 29
  | _ => True
mutual
def CmdOk : Cmd → Nat → Prop
  | .s x, _ => SimOk x
  | .r t b, d => 0 < d ∧ 1 ≤ t ∧ t ≤ 1000000000000000000000000000000 ∧ b.length ≤ 1000 ∧ CmdsOk b (d - 1)
def CmdsOk : List Cmd → Nat → Prop
  | [], _ => True
  | c :: cs, d => CmdOk c d ∧ CmdsOk cs d
end
mutual
def wt : Cmd → Int
  | .s _ => 1
  | .r _ b => 1 + wts b
def wts : List Cmd → Int
  | [] => 0
  | c :: cs => wt c + wts cs
end
mutual
def perf : Cmd → Int
  | .s _ => 1
  | .r t b => t * perfs b
def perfs : List Cmd → Int
  | [] => 0
  | c :: cs => perf c + perfs cs
end
theorem oks_all {d : Nat} : ∀ {cs : List Cmd}, CmdsOk cs d ↔ ∀ c, c ∈ cs → CmdOk c d
  | [] => by simp [CmdsOk]
  | c :: cs => by simp only [CmdsOk, oks_all (cs := cs), List.mem_cons, forall_eq_or_imp]
mutual
theorem wt_pos : ∀ c : Cmd, 1 ≤ wt c
  | .s _ => by simp only [wt]; exact Int.le_refl 1
  | .r _ b => by have := wts_nn b; simp only [wt]; omega
theorem wts_nn : ∀ cs : List Cmd, 0 ≤ wts cs
  | [] => by simp only [wts]; exact Int.le_refl 0
  | c :: cs => by have := wt_pos c; have := wts_nn cs; simp only [wts]; omega
end
theorem wts_sum : ∀ cs : List Cmd, wts cs = (cs.map wt).sum
  | [] => rfl
  | c :: cs => by simp only [wts, List.map_cons, List.sum_cons, wts_sum cs]
theorem perfs_sum : ∀ cs : List Cmd, perfs cs = (cs.map perf).sum
  | [] => rfl
  | c :: cs => by simp only [perfs, List.map_cons, List.sum_cons, perfs_sum cs]
theorem wts_app : ∀ as bs : List Cmd, wts (as ++ bs) = wts as + wts bs
  | [], bs => by simp only [List.nil_append, wts]; omega
  | a :: as, bs => by simp only [List.cons_append, wts, wts_app as bs]; omega
theorem perfs_app : ∀ as bs : List Cmd, perfs (as ++ bs) = perfs as + perfs bs
  | [], bs => by simp only [List.nil_append, perfs]; omega
  | a :: as, bs => by simp only [List.cons_append, perfs, perfs_app as bs]; omega
theorem oks_app {d : Nat} {as bs : List Cmd} : CmdsOk (as ++ bs) d ↔ CmdsOk as d ∧ CmdsOk bs d := by
  rw [oks_all, oks_all, oks_all]
  constructor
  · exact fun h => ⟨fun c hc => h c (List.mem_append_left _ hc), fun c hc => h c (List.mem_append_right _ hc)⟩
  · exact fun h c hc => (List.mem_append.mp hc).elim (h.1 c) (h.2 c)
mutual
theorem ok_mono : ∀ (c : Cmd) {d e : Nat}, d ≤ e → CmdOk c d → CmdOk c e
  | .s _, _, _, _, h => by simp only [CmdOk] at *; exact h
  | .r _ b, d, e, i, h => by
    simp only [CmdOk] at *
    exact ⟨by omega, h.2.1, h.2.2.1, h.2.2.2.1, oks_mono b (by omega) h.2.2.2.2⟩
theorem oks_mono : ∀ (cs : List Cmd) {d e : Nat}, d ≤ e → CmdsOk cs d → CmdsOk cs e
  | [], _, _, _, _ => by simp only [CmdsOk]
  | c :: cs, _, _, i, h => by
    simp only [CmdsOk] at *
    exact ⟨ok_mono c i h.1, oks_mono cs i h.2⟩
end
/-- bounds of what is performed -/
def pB (d : Nat) : Int := (1024 * 1267650600228229401496703205376) ^ d
theorem pB_pos (d : Nat) : 1 ≤ pB d := by
  have h : 0 < pB d := Int.pow_pos (by decide)
  omega
mutual
theorem perf_le : ∀ (c : Cmd) {d : Nat}, CmdOk c d → 0 ≤ perf c ∧ perf c ≤ pB d
  | .s _, d, _ => by
    simp only [perf]
    exact ⟨by decide, pB_pos d⟩
  | .r t b, d, h => by
    simp only [CmdOk] at h
    obtain ⟨h0, h1, h2, h3, h4⟩ := h
    obtain ⟨k1, k2⟩ := perfs_le b h4
    simp only [perf]
    refine ⟨Int.mul_nonneg (by omega) k1, ?_⟩
    have e : pB d = 1267650600228229401496703205376 * (1024 * pB (d - 1)) := by
      obtain ⟨k, rfl⟩ : ∃ k, d = k + 1 := ⟨d - 1, by omega⟩
      show (1024 * 1267650600228229401496703205376 : Int) ^ (k + 1) = _
      rw [Int.pow_succ, Nat.add_sub_cancel]
      unfold pB
      rw [Int.mul_comm, Int.mul_comm 1024 1267650600228229401496703205376, Int.mul_assoc]
    rw [e]
    have hp := pB_pos (d - 1)
    have k3 : perfs b ≤ 1024 * pB (d - 1) := Int.le_trans k2 (Int.mul_le_mul_of_nonneg_right (by omega) (by omega))
    exact Int.mul_le_mul (by omega) k3 k1 (by decide)
theorem perfs_le : ∀ (cs : List Cmd) {d : Nat}, CmdsOk cs d → 0 ≤ perfs cs ∧ perfs cs ≤ (cs.length : Int) * pB d
  | [], d, _ => by
    simp only [perfs, List.length_nil]
    exact ⟨by decide, by simp⟩
  | c :: cs, d, h => by
    simp only [CmdsOk] at h
    have a := perf_le c h.1
    have b := perfs_le cs h.2
    simp only [perfs, List.length_cons]
    refine ⟨by omega, ?_⟩
    rw [Int.natCast_add, Int.add_mul]
    have : ((1 : Nat) : Int) * pB d = pB d := by simp
    omega
end
theorem pB4 : pB 4 ≤ 2 ^ 440 := by decide +kernel
structure HChk (T : Tab) : Prop where
  v : T 0 = some o0
  i : T 16 = some o16
  s : T 69 = some o69
  c : T 70 = some o70
  f : T 71 = some o71
  k : T 83 = some o83
structure HPrg (T : Tab) : Prop where
  ck : HChk T
  p : T 84 = some o84
  n : T 85 = some o85
/-- a comprehension over what is told in data -/
theorem comp_enc {α : Type} {f : P → M (List P)} (enc g : α → P) {s : Store} : ∀ {cs : List α} {acc : List P}, (∀ c, c ∈ cs → f (enc c) s = .ok [g c] s) → acc.length + cs.length < 16777216 → compGo f (cs.map enc) acc s = .ok (acc ++ cs.map g) s
  | [], acc, _, _ => by rw [List.map_nil, List.map_nil, List.append_nil]; rfl
  | x :: xs, acc, h, hl => by
    rw [List.map_cons, compGo_step, h x List.mem_cons_self, and_ok]
    simp only [List.length_cons] at hl
    rw [if_pos (by simp; omega), comp_enc enc g (fun y hy => h y (List.mem_cons_of_mem _ hy)) (by simp; omega)]
    simp
section
variable {T : Tab} {L : Nat → Bool}
theorem is_integer_p (H : HChk T) (n : Nat) (i a b : Int) (s : Store) : callF T L (n + 2) 16 [.p (.int i), .p (.int a), .p (.int b)] s = .ok (.p (.bool (decide (a ≤ i) && decide (i ≤ b)))) s := by
  rw [callF_app H.i _ _ rfl]
  have e := callF_app (k := n) (L := L) H.v [.p (.int i)] s rfl
  have e2 : callF T L (n + 1) 0 [.p (.int i)] s = .ok (.p (.bool true)) s := by rw [e]; simp [o0, tyP]
  by_cases h : a ≤ i <;> simp [o16, e2, h]
theorem is_simple (H : HChk T) (n : Nat) {x : Sim} (h : SimOk x) (s : Store) : callF T L (n + 3) 69 [.p (simP x)] s = .ok (.p (.bool true)) s := by
  rw [callF_app H.s _ _ rfl]
  have ii := is_integer_p (L := L) H n
  cases x with
  | srt u c =>
    have h0 := h.1
    have h1 := h.2
    cases u <;> simp [o69, simP, tyP, ii, h0, h1]
  | rev => simp [o69, simP, tyP]
  | res => simp [o69, simP, tyP]
  | cut f m =>
    have h0 := h.1
    have h1 := h.2
    cases f <;> simp [o69, simP, tyP, ii, h0, h1]
theorem is_simple_r (H : HChk T) (n : Nat) (t : Int) (b : P) (s : Store) : callF T L (n + 3) 69 [.p (.tuple [.str "repeat", .int t, b])] s = .ok (.p (.bool false)) s := by
  rw [callF_app H.s _ _ rfl]
  simp [o69, tyP]
theorem commands_rep (H : HChk T) (n d : Nat) {t : Int} {b : List Cmd} (h1 : 1 ≤ t) (h2 : t ≤ 1000000000000000000000000000000) (h3 : b.length ≤ 1000)
    (ih : ∀ c, c ∈ b → ∀ s : Store, callF T L (n + 4 + d) 70 [.p (cmdP c), .p (.int d)] s = .ok (.p (.int (wt c))) s) (s : Store) :
    callF T L (n + 4 + (d + 1)) 70 [.p (cmdP (.r t b)), .p (.int ((d + 1 : Nat) : Int))] s = .ok (.p (.int (wt (.r t b)))) s := by
  rw [show n + 4 + (d + 1) = (n + 4 + d) + 1 by omega, callF_app H.c _ _ rfl]
  have i := is_simple_r (L := L) H (n + d + 1) t (.tuple (b.map cmdP))
  rw [show n + d + 1 + 3 = n + 4 + d by omega] at i
  have j := is_integer_p (L := L) H (n + 2 + d) t 1 1000000000000000000000000000000
  rw [show n + 2 + d + 2 = n + 4 + d by omega] at j
  obtain ⟨z, hz⟩ : ∃ z : Int, z = ((d + 1 : Nat) : Int) := ⟨_, rfl⟩
  have e1 : z - 1 = (d : Int) := by omega
  have e2 : ¬ z = 0 := by omega
  have hc := fun (y : Option D) => comp_enc (f := turnE (callF T L (n + 4 + d)) s.length [some (.p (.tuple [.str "repeat", .int t, .tuple (b.map cmdP)])), some (.p (.int z)), none, some (.p (.str "repeat")), some (.p (.int t)), some (.p (.tuple (b.map cmdP))), y] (.call 70 (.cons (.var 6) (.cons (.bin .sub (.var 1) (.lit (.int 1))) .nil))) (.name 6) .none) cmdP (fun c => .int (wt c)) (s := s) (cs := b) (acc := []) (fun c hcm => by
    simp [turnE_app, e1, ih c hcm]) (by simp; omega)
  have nz : decide ((0 : Int) ∈ b.map wt) = false := by
    apply decide_eq_false
    intro hm
    obtain ⟨c, _, e⟩ := List.mem_map.mp hm
    have := wt_pos c
    omega
  have iz := inP_ints 0 (b.map wt)
  rw [nz, List.map_map] at iz
  have ts := toInts_map wt b
  have ws := wts_sum b
  have cp : cmdP (.r t b) = .tuple [.str "repeat", .int t, .tuple (b.map cmdP)] := by simp only [cmdP, cmdsP_map]
  have hm : (b.map fun c => PyData.int (wt c)) = b.map (PyData.int ∘ wt) := rfl
  rw [cp, ← hz, show wt (.r t b) = 1 + (b.map wt).sum by simp only [wt, ws]]
  rw [hm] at ts
  simp only [hm, List.nil_append] at hc
  simp [o70, i, j, tyP, h1, h2, e2, hc, iz, ts]
mutual
theorem commands_in (H : HChk T) (n : Nat) : ∀ (c : Cmd) (d : Nat), CmdOk c d → ∀ s : Store, callF T L (n + 4 + d) 70 [.p (cmdP c), .p (.int d)] s = .ok (.p (.int (wt c))) s
  | .s x, d, h, s => by
    simp only [CmdOk] at h
    rw [show n + 4 + d = (n + d + 3) + 1 by omega, callF_app H.c _ _ rfl]
    have i := is_simple (L := L) H (n + d) h
    simp [o70, cmdP, wt, i]
  | .r t b, d, h, s => by
    simp only [CmdOk] at h
    obtain ⟨h0, h1, h2, h3, h4⟩ := h
    obtain ⟨d, rfl⟩ : ∃ k, d = k + 1 := ⟨d - 1, by omega⟩
    rw [Nat.add_sub_cancel] at h4
    exact commands_rep H n d h1 h2 h3 (commands_ins H n b d h4) s
theorem commands_ins (H : HChk T) (n : Nat) : ∀ (b : List Cmd) (d : Nat), CmdsOk b d → ∀ c, c ∈ b → ∀ s : Store, callF T L (n + 4 + d) 70 [.p (cmdP c), .p (.int d)] s = .ok (.p (.int (wt c))) s
  | [], _, _, c, hc, _ => by cases hc
  | x :: xs, d, h, c, hc, s => by
    simp only [CmdsOk] at h
    rcases List.mem_cons.mp hc with e | e
    · rw [e]; exact commands_in H n x d h.1 s
    · exact commands_ins H n xs d h.2 c e s
end
theorem first_invalid (H : HChk T) (n : Nat) {cs : List Cmd} (h : CmdsOk cs 3) (hw : wts cs ≤ 400) (s : Store) : callF T L (n + 8) 71 [.p (progP cs)] s = .ok (.p .none) s := by
  suffices g : (callF T L (n + 8) 71 [.p (progP cs)] s).sat fun d s' => d = .p .none ∧ s' = s by
    obtain ⟨d, s', e, rfl, rfl⟩ := sat_ex g
    exact e
  rw [callF_app H.f _ _ rfl]
  simp [o71, progP, cmdsP_map]
  try simp only [sat_fin, sat_nxt, sat_st, sat_and]
  refine (for_enum (fun k rs σ st => st = s ∧ ∃ (pre rest : List Cmd) (x y z : Option D), cs = pre ++ rest ∧ rs = rest.map cmdP ∧ σ = [some (.p (.tuple (cs.map cmdP))), some (.p (.int (wts pre))), x, y, z])
    ⟨rfl, [], cs, none, none, none, rfl, rfl, rfl⟩ ?_).imp ?_ fun _ _ h => h
  · rintro k r rs σ st ⟨rfl, pre, rest, x, y, z, e, er, rfl⟩
    cases rest with
    | nil => cases er
    | cons c rest =>
      simp only [List.map_cons, List.cons.injEq] at er
      obtain ⟨rfl, rfl⟩ := er
      have ok := (oks_all.mp h) c (by rw [e]; simp)
      have i := commands_in (L := L) H n c 3 ok
      have w1 := wt_pos c
      have w2 := wts_nn rest
      have w3 : wts pre + wt c ≤ 400 := by
        have := hw
        rw [e, wts_app, wts] at this
        omega
      have e3 : (((3 : Nat) : Int)) = 3 := rfl
      rw [e3] at i
      have nz : ¬ wt c = 0 := by omega
      have n4 : ¬ 400 < wts pre + wt c := by omega
      simp [turnS_app, i, nz, n4]
      exact ⟨pre ++ [c], rest, by rw [e]; simp, rfl, by simp [wts_app, wts]⟩
  · rintro σ st ⟨k, rfl, pre, rest, x, y, z, e, er, rfl⟩
    simp
theorem check_program (H : HChk T) (n : Nat) {cs : List Cmd} (h : CmdsOk cs 3) (hw : wts cs ≤ 400) (s : Store) : callF T L (n + 9) 83 [.p (progP cs)] s = .ok (.p .none) s := by
  rw [callF_app H.k _ _ rfl]
  have i := first_invalid (L := L) H n h hw
  have t : tyP (progP cs) .tuple = true := rfl
  simp [o83, t, i]
theorem t_small {t : Int} (h1 : 1 ≤ t) (h2 : t ≤ 1000000000000000000000000000000) : t.natAbs < 2 ^ 100 := by omega
theorem perfs_small {d : Nat} (hd : d ≤ 4) {b : List Cmd} (h : CmdsOk b d) (hl : b.length ≤ 1000) : (perfs b).natAbs < 2 ^ 460 := by
  obtain ⟨h1, h2⟩ := perfs_le b h
  have h3 : pB d ≤ pB 4 := by
    unfold pB
    have : d = 0 ∨ d = 1 ∨ d = 2 ∨ d = 3 ∨ d = 4 := by omega
    rcases this with rfl | rfl | rfl | rfl | rfl <;> decide +kernel
  have h4 := pB4
  have hp := pB_pos d
  have h5 : (b.length : Int) * pB d ≤ 1000 * pB d := Int.mul_le_mul_of_nonneg_right (by omega) (by omega)
  generalize pB d = x at *
  generalize pB 4 = y at *
  generalize (b.length : Int) * x = z at *
  have e1 : (2 : Int) ^ 440 = 2839213766779714416208296124562517712318911565184836172974571090549372219192960637992933791850638927971728600024477257552869537611776 := by decide +kernel
  have e2 : (2 : Nat) ^ 460 = 2977131414714805823690030317109266572712515013375254774912983855843898524112477893944078543723575564536883288499266264815757728270805630976 := by decide +kernel
  rw [e2]
  rw [e1] at h4
  omega
theorem perf_step (H : HPrg T) (m : Nat) {cs : List Cmd} (hl : cs.length ≤ 1000) (s : Store)
    (ih : ∀ t b, Cmd.r t b ∈ cs → callF T L m 84 [.p (progP b)] s = .ok (.p (.int (perfs b))) s ∧ binP .mul (.int t) (.int (perfs b)) = some (.int (t * perfs b))) :
    callF T L (m + 1) 84 [.p (progP cs)] s = .ok (.p (.int (perfs cs))) s := by
  rw [callF_app H.p _ _ rfl]
  have hc := comp_enc (f := turnE (callF T L m) s.length [some (.p (.tuple (cs.map cmdP))), none] (.ite (.cmp .eq (.idx (.var 1) (.lit (.int 0))) (.lit (.str "repeat"))) (.bin .mul (.idx (.var 1) (.lit (.int 1))) (.call 84 (.cons (.idx (.var 1) (.lit (.int 2))) .nil))) (.lit (.int 1))) (.name 1) .none) cmdP (fun c => .int (perf c)) (s := s) (cs := cs) (acc := []) (fun c hcm => by
    cases c with
    | s x =>
      cases x with
      | srt u c => cases u <;> simp [turnE_app, cmdP, simP, perf]
      | rev => simp [turnE_app, cmdP, simP, perf]
      | res => simp [turnE_app, cmdP, simP, perf]
      | cut f c => cases f <;> simp [turnE_app, cmdP, simP, perf]
    | r t b =>
      obtain ⟨i1, i2⟩ := ih t b hcm
      have e : PyData.tuple (cmdsP b) = progP b := rfl
      simp [turnE_app, cmdP, perf, e, i1, i2]) (by simp; omega)
  have ts := toInts_map perf cs
  have ps := perfs_sum cs
  have e : progP cs = .tuple (cs.map cmdP) := by unfold progP; rw [cmdsP_map]
  simp only [List.nil_append] at hc
  rw [e]
  simp [o84, hc, ts, ps]
theorem performed (H : HPrg T) (n : Nat) : ∀ (d : Nat), d ≤ 4 → ∀ cs : List Cmd, CmdsOk cs d → cs.length ≤ 1000 → ∀ s : Store, callF T L (n + 1 + d) 84 [.p (progP cs)] s = .ok (.p (.int (perfs cs))) s
  | 0, _, cs, h, hl, s => perf_step H n hl s fun t b hm => by
    have := (oks_all.mp h) _ hm
    simp only [CmdOk] at this
    exact absurd this.1 (by decide)
  | d + 1, hd, cs, h, hl, s => perf_step H (n + 1 + d) hl s fun t b hm => by
    have ok := (oks_all.mp h) _ hm
    simp only [CmdOk, Nat.add_sub_cancel] at ok
    obtain ⟨_, h1, h2, h3, h4⟩ := ok
    exact ⟨performed H n d (by omega) b h4 h3 s, bin_mul_w (t_small h1 h2) (perfs_small (by omega) h4 h3) (by decide) (by decide) (by decide)⟩
theorem count_commands (H : HPrg T) (n : Nat) {cs : List Cmd} (h : CmdsOk cs 3) (hw : wts cs ≤ 400) (hl : cs.length ≤ 1000) (s : Store) : callF T L (n + 10) 85 [.p (progP cs)] s = .ok (.p (.int (perfs cs))) s := by
  rw [callF_app H.n _ _ rfl]
  have c := check_program (L := L) H.ck n h hw
  have p := performed (L := L) H (n + 5) 3 (by decide) cs h hl
  simp [o85, c, p]
/-! ### drawn programs -/
def SimIn (w z : Int) : Sim → Prop
  | .srt _ c => 0 ≤ c ∧ c < w
  | .cut _ m => 2 ≤ m ∧ m ≤ z
  | _ => True
theorem simIn_ok {w z : Int} (hw : w ≤ 4) (hz : z ≤ 29) : ∀ {x : Sim}, SimIn w z x → SimOk x
  | .srt _ c, h => ⟨h.1, by have := h.2; omega⟩
  | .cut _ m, h => ⟨h.1, by have := h.2; omega⟩
  | .rev, _ => trivial
  | .res, _ => trivial
structure IsSteps (m w z : Int) (d : D) : Prop where
  ex : ∃ xs : List Sim, d = .p (.tuple (xs.map simP)) ∧ (xs.length : Int) ≤ m ∧ ∀ x, x ∈ xs → SimIn w z x
structure StpI (s : Store) (i : Nat) (m w z : Int) (most : Int) (xs : List P) (σ : Env) (st : Store) : Prop where
  ex : ∃ (s4 : Store) (fs : List P) (t u v x : Option D), Drawn i s s4 ∧ st = s4 ++ [.lst (fs.map D.p)] ∧ (fs.length : Int) + xs.length ≤ m ∧ (∀ f, f ∈ fs → ∃ y, f = simP y ∧ SimIn w z y) ∧
    σ = [some (.loc i), some (.p (.int most)), some (.p (.int w)), some (.p (.int z)), some (.loc s.length), t, u, v, x]
theorem law_steps (HP : HPool T L) (h73 : T 73 = some o73) (n : Nat) {s : Store} {i : Nat} {m w z : Int} (h : PoolOk s i) (m0 : 0 ≤ m) (m1 : m ≤ 1000) (w0 : 0 < w) (w1 : w ≤ 100) (z0 : 2 ≤ z) (z1 : z ≤ 100) :
    (callF T L (n + 2) 73 [.loc i, .p (.int m), .p (.int w), .p (.int z)] s).sat fun d s' => Drawn i s s' ∧ IsSteps m w z d := by
  rw [callF_app h73 _ _ rfl]
  simp [o73]
  try simp only [sat_fin, sat_nxt, sat_st, sat_and]
  refine (draw HP n (h.app _) (by omega) (by omega)).imp ?_
  rintro _ st ⟨a, rfl, a0, a1, d1⟩
  obtain ⟨s1, d2, rfl⟩ := d1.app h.lt
  have ra := rngOk_ok (i := a) (by omega) (by omega)
  simp [ra]
  try simp only [sat_fin, sat_nxt, sat_st, sat_and]
  refine (for_sat (StpI s i m w z m) ⟨s1, [], none, none, none, none, d2, rfl, by simp [rngI]; omega, fun f hf => (by cases hf), rfl⟩ ?_).imp ?_ fun _ _ h => h
  · rintro x r σ st ⟨s4, fs, t, u, v, y, d4, rfl, hl, hf, rfl⟩
    simp only [List.length_cons] at hl
    have lf : fs.length < 16777216 := by omega
    have ra := fun (s3 : Store) (d3 : Drawn i s s3) (ls : List Ob) => rd_app_r (s := s3) (ls := ls) (n := s.length) (k := 0) (by rw [d3.len]; rfl)
    have wa := fun (s3 : Store) (d3 : Drawn i s s3) (ls : List Ob) (o : Ob) => wr_app_r (s := s3) (ls := ls) (n := s.length) (k := 0) (by rw [d3.len]; rfl) o
    have one : ∀ (s7 : Store) (y : Sim) (t u v x : Option D), Drawn i s s7 → SimIn w z y → StpI s i m w z m r [some (.loc i), some (.p (.int m)), some (.p (.int w)), some (.p (.int z)), some (.loc s.length), t, u, v, x] (s7 ++ [.lst (fs.map D.p ++ [.p (simP y)])]) := fun s7 y t u v x d7 hy =>
      ⟨s7, fs ++ [simP y], t, u, v, x, d7, by simp, by simp; omega, fun f hm => by
        rcases List.mem_append.mp hm with q | q
        · exact hf f q
        · rw [List.mem_singleton.mp q]; exact ⟨y, rfl, hy⟩, rfl⟩
    simp [turnS_app]
    try simp only [sat_fin, sat_nxt, sat_st, sat_and]
    refine (draw HP n (d4.ok.app _) (by omega) (by omega)).imp ?_
    rintro _ st ⟨b, rfl, b0, b1, d5⟩
    obtain ⟨s5, d6, rfl⟩ := d5.app d4.lt'
    replace d6 := d4.trans d6
    simp
    try simp only [sat_fin, sat_nxt, sat_st, sat_and]
    refine (draw HP n (d6.ok.app _) (by omega) (by omega)).imp ?_
    rintro _ st ⟨c, rfl, c0, c1, d7⟩
    obtain ⟨s6, d8, rfl⟩ := d7.app d6.lt'
    replace d8 := d6.trans d8
    simp
    try simp only [sat_fin, sat_nxt, sat_st, sat_and]
    refine (draw HP n (d8.ok.app _) (by omega) (by omega)).imp ?_
    rintro _ st ⟨e, rfl, e0, e1, d9⟩
    obtain ⟨s7, d10, rfl⟩ := d9.app d8.lt'
    replace d10 := d8.trans d10
    by_cases q1 : b < 3
    · simp [q1, ra s7 d10, wa s7 d10, lf]
      try simp only [sat_fin, sat_nxt, sat_st, sat_and]
      refine sat_atI b0 (by simpa using q1) fun y hy => ?_
      obtain ⟨up, rfl⟩ : ∃ up : Bool, y = .str (if up then "up" else "down") := by
        simp only [List.mem_cons, List.not_mem_nil, or_false] at hy
        rcases hy with rfl | rfl | rfl
        · exact ⟨true, rfl⟩
        · exact ⟨false, rfl⟩
        · exact ⟨true, rfl⟩
      simp [ra s7 d10, wa s7 d10, lf]
      exact one s7 (.srt up c) _ _ _ _ d10 ⟨c0, c1⟩
    · by_cases q2 : b = 3
      · simp [q2, ra s7 d10, wa s7 d10, lf]
        exact one s7 .rev _ _ _ _ d10 trivial
      · by_cases q3 : b = 4
        · simp [q3, ra s7 d10, wa s7 d10, lf]
          exact one s7 .res _ _ _ _ d10 trivial
        · simp [q1, q2, q3, ra s7 d10, wa s7 d10, lf]
          try simp only [sat_fin, sat_nxt, sat_st, sat_and]
          refine sat_atI (by omega) (by simp; omega) fun y hy => ?_
          obtain ⟨fs', rfl⟩ : ∃ up : Bool, y = .str (if up then "first" else "last") := by
            simp only [List.mem_cons, List.not_mem_nil, or_false] at hy
            rcases hy with rfl | rfl | rfl
            · exact ⟨true, rfl⟩
            · exact ⟨false, rfl⟩
            · exact ⟨true, rfl⟩
          simp [ra s7 d10, wa s7 d10, lf]
          exact one s7 (.cut fs' (2 + e)) _ _ _ _ d10 ⟨by omega, by omega⟩
  · rintro σ st ⟨s4, fs, t, u, v, y, d4, rfl, hl, hf, rfl⟩
    have r1 := rd_app_r (s := s4) (ls := [.lst (fs.map D.p)]) (n := s.length) (k := 0) (by rw [d4.len]; rfl)
    have e : List.take s.length (s4 ++ [.lst (fs.map D.p)]) = s4 := by rw [← d4.len, List.take_left]
    obtain ⟨xs, hfs, hxs⟩ := unmap hf
    simp [r1, e]
    exact ⟨d4, ⟨xs, by rw [hfs], by rw [hfs, List.length_map] at hl; simpa using hl, hxs⟩⟩
mutual
def CmdIn (w z T : Int) : Cmd → Nat → Prop
  | .s x, _ => SimIn w z x
  | .r t b, d => 0 < d ∧ 1 ≤ t ∧ t ≤ T ∧ b.length ≤ 8 ∧ CmdsIn w z T b (d - 1)
def CmdsIn (w z T : Int) : List Cmd → Nat → Prop
  | [], _ => True
  | c :: cs, d => CmdIn w z T c d ∧ CmdsIn w z T cs d
end
theorem ins_all {w z t : Int} {d : Nat} : ∀ {cs : List Cmd}, CmdsIn w z t cs d ↔ ∀ c, c ∈ cs → CmdIn w z t c d
  | [] => by simp [CmdsIn]
  | c :: cs => by simp only [CmdsIn, ins_all (cs := cs), List.mem_cons, forall_eq_or_imp]
theorem ins_app {w z t : Int} {d : Nat} {as bs : List Cmd} : CmdsIn w z t (as ++ bs) d ↔ CmdsIn w z t as d ∧ CmdsIn w z t bs d := by
  rw [ins_all, ins_all, ins_all]
  constructor
  · exact fun h => ⟨fun c hc => h c (List.mem_append_left _ hc), fun c hc => h c (List.mem_append_right _ hc)⟩
  · exact fun h c hc => (List.mem_append.mp hc).elim (h.1 c) (h.2 c)
mutual
theorem in_ok {w z t : Int} (hw : w ≤ 4) (hz : z ≤ 29) (ht : t ≤ 1000000000000000000000000000000) : ∀ (c : Cmd) {d : Nat}, CmdIn w z t c d → CmdOk c d
  | .s _, _, h => by
    simp only [CmdIn] at h
    simp only [CmdOk]
    exact simIn_ok hw hz h
  | .r _ b, d, h => by
    simp only [CmdIn] at h
    simp only [CmdOk]
    exact ⟨h.1, h.2.1, by omega, by omega, ins_ok hw hz ht b h.2.2.2.2⟩
theorem ins_ok {w z t : Int} (hw : w ≤ 4) (hz : z ≤ 29) (ht : t ≤ 1000000000000000000000000000000) : ∀ (cs : List Cmd) {d : Nat}, CmdsIn w z t cs d → CmdsOk cs d
  | [], _, _ => by simp only [CmdsOk]
  | c :: cs, _, h => by
    simp only [CmdsIn] at h
    simp only [CmdsOk]
    exact ⟨in_ok hw hz ht c h.1, ins_ok hw hz ht cs h.2⟩
end
theorem sim_map (xs : List Sim) : xs.map simP = (xs.map Cmd.s).map cmdP := by
  rw [List.map_map]
  apply List.map_congr_left
  intro x _
  simp [cmdP]
theorem sim_in {w z t : Int} {d : Nat} {xs : List Sim} (h : ∀ x, x ∈ xs → SimIn w z x) : CmdsIn w z t (xs.map Cmd.s) d := by
  rw [ins_all]
  intro c hc
  obtain ⟨x, hx, rfl⟩ := List.mem_map.mp hc
  simp only [CmdIn]
  exact h x hx
theorem sim_wt : ∀ xs : List Sim, wts (xs.map Cmd.s) = xs.length
  | [] => rfl
  | x :: xs => by simp only [List.map_cons, wts, wt, sim_wt xs, List.length_cons]; omega
theorem cut_to {α : Type} {xs : List α} {a : Int} (h0 : 0 ≤ a) (h1 : a ≤ xs.length) : cutL xs none (some a) = xs.take a.toNat := by
  obtain ⟨k, rfl⟩ := Int.eq_ofNat_of_zero_le h0
  unfold cutL
  rw [HT.sIx_none, HT.sIx_nat, List.drop_zero, Nat.sub_zero, Int.toNat_natCast, Nat.min_eq_left (by omega)]
theorem cut_from {α : Type} {xs : List α} {a : Int} (h0 : 0 ≤ a) (h1 : a ≤ xs.length) : cutL xs (some a) none = xs.drop a.toNat := by
  obtain ⟨k, rfl⟩ := Int.eq_ofNat_of_zero_le h0
  unfold cutL
  rw [HT.sIx_none, HT.sIx_nat, Int.toNat_natCast, Nat.min_eq_left (by omega)]
  apply List.take_of_length_le
  rw [List.length_drop]
  exact Nat.le_refl _
structure IsProg (w z t : Int) (d : D) : Prop where
  ex : ∃ cs : List Cmd, d = .p (progP cs) ∧ CmdsIn w z t cs 2 ∧ cs.length ≤ 8 ∧ wts cs ≤ 24
structure PrgI (s : Store) (i : Nat) (w z t : Int) (xs : List P) (σ : Env) (st : Store) : Prop where
  ex : ∃ (cs : List Cmd) (a b c e : Option D), Drawn i s st ∧ CmdsIn w z t cs 2 ∧ cs.length + xs.length ≤ 8 ∧ wts cs + 9 * xs.length ≤ 24 ∧
    σ = [some (.loc i), some (.p (.int w)), some (.p (.int z)), some (.p (.int t)), some (.p (.tuple (cs.map cmdP))), a, b, c, e]
theorem law_program (HP : HPool T L) (h73 : T 73 = some o73) (h74 : T 74 = some o74) (n : Nat) {s : Store} {i : Nat} {w z t : Int} (h : PoolOk s i) (w0 : 0 < w) (w1 : w ≤ 100) (z0 : 2 ≤ z) (z1 : z ≤ 100) (t0 : 0 < t) (t1 : t ≤ 1000000000000000000000000000000) :
    (callF T L (n + 3) 74 [.loc i, .p (.int w), .p (.int z), .p (.int t)] s).sat fun d s' => Drawn i s s' ∧ IsProg w z t d := by
  rw [callF_app h74 _ _ rfl]
  simp [o74]
  try simp only [sat_fin, sat_nxt, sat_st, sat_and]
  refine (law_steps HP h73 n (m := 6) h (by omega) (by omega) w0 w1 z0 z1).imp ?_
  rintro _ s1 ⟨d1, ⟨xs, rfl, hl, hx⟩⟩
  rw [sim_map]
  simp [-List.map_map]
  try simp only [sat_fin, sat_nxt, sat_st, sat_and]
  refine (draw HP (n + 1) d1.ok (by omega) (by omega)).imp ?_
  rintro _ s2 ⟨a, rfl, a0, a1, d2⟩
  replace d2 := d1.trans d2
  have ra := rngOk_ok (i := a) (by omega) (by omega)
  simp [ra, -List.map_map]
  try simp only [sat_fin, sat_nxt, sat_st, sat_and]
  refine (for_sat (PrgI s i w z t) ⟨xs.map Cmd.s, none, none, none, none, d2, sim_in hx, by simp [rngI]; omega, by simp [rngI, sim_wt]; omega, rfl⟩ ?_).imp ?_ fun _ _ h => h
  · rintro x r σ st ⟨cs, a, b, c, e, d3, ok, hl, hw, rfl⟩
    simp only [List.length_cons] at hl hw
    -- the commands that are put in
    have put : ∀ (s7 : Store) (k : Nat) (t' : Int) (inner : List Cmd) (a b c e : Option D), Drawn i s s7 → 1 ≤ t' → t' ≤ t → inner.length ≤ 8 → CmdsIn w z t inner 1 → wts inner ≤ 8 →
        PrgI s i w z t r [some (.loc i), some (.p (.int w)), some (.p (.int z)), some (.p (.int t)), some (.p (.tuple ((cs.map cmdP).take k ++ PyData.tuple [.str "repeat", .int t', .tuple (inner.map cmdP)] :: (cs.map cmdP).drop k))), a, b, c, e] s7 := fun s7 k t' inner a b c e d7 h1 h2 h3 h4 h5 => by
      have e1 : wts (cs.take k) + wts (cs.drop k) = wts cs := by rw [← wts_app, List.take_append_drop]
      have e2 : (cs.take k).length + (cs.drop k).length = cs.length := by rw [← List.length_append, List.take_append_drop]
      refine ⟨cs.take k ++ .r t' inner :: cs.drop k, a, b, c, e, d7, ?_, ?_, ?_, ?_⟩
      · rw [ins_app]
        refine ⟨ins_all.mpr fun q hq => ins_all.mp ok q (List.mem_of_mem_take hq), ?_⟩
        simp only [CmdsIn, CmdIn]
        exact ⟨⟨by decide, h1, h2, h3, h4⟩, ins_all.mpr fun q hq => ins_all.mp ok q (List.mem_of_mem_drop hq)⟩
      · rw [List.length_append, List.length_cons]; omega
      · rw [wts_app]
        simp only [wts, wt]
        omega
      · rw [List.map_append, List.map_take, List.map_cons, List.map_drop]
        simp only [cmdP, cmdsP_map]
    have csl : (cs.map cmdP).length = cs.length := List.length_map ..
    generalize hcs : cs.map cmdP = cp at *
    -- behind the inner program
    have rest : ∀ (s5 : Store) (inner : List Cmd) (e : Option D), Drawn i s s5 → inner.length ≤ 8 → CmdsIn w z t inner 1 → wts inner ≤ 8 →
        SR.sat (evSs (callF T L (n + 2)) s.length (.cons (.asg (.name 7) (.call 9 (.cons (.var 0) (.cons (.bin .add (.blt .len (.cons (.var 4) .nil)) (.lit (.int 1))) .nil)))) (.cons (.asg (.name 4) (.bin .add (.bin .add (.slc (.var 4) .none (.some (.var 7))) (.tup (.cons (.tup (.cons (.lit (.str "repeat")) (.cons (.bin .add (.lit (.int 1)) (.call 9 (.cons (.var 0) (.cons (.var 3) .nil)))) (.cons (.var 6) .nil)))) .nil))) (.slc (.var 4) (.some (.var 7)) .none))) .nil))
          [some (.loc i), some (.p (.int w)), some (.p (.int z)), some (.p (.int t)), some (.p (.tuple cp)), some (.p x), some (.p (.tuple (inner.map cmdP))), c, e] s5) (PrgI s i w z t r) (fun _ _ => False) := by
      intro s5 inner e d5 h3 h4 h5
      generalize hin : inner.map cmdP = ip at *
      simp
      try simp only [sat_fin, sat_nxt, sat_st, sat_and]
      refine (draw HP (n + 1) d5.ok (by omega) (by omega)).imp ?_
      rintro _ s6 ⟨k, rfl, k0, k1, d6⟩
      replace d6 := d5.trans d6
      simp
      try simp only [sat_fin, sat_nxt, sat_st, sat_and]
      refine (draw HP (n + 1) d6.ok (by omega) (by omega)).imp ?_
      rintro _ s7 ⟨v, rfl, v0, v1, d7⟩
      replace d7 := d6.trans d7
      have c1 := cut_to (xs := cp) k0 (by omega)
      have c2 := cut_from (xs := cp) k0 (by omega)
      have g1 : (cp.take k.toNat).length + 1 ≤ 16777216 := by rw [List.length_take]; omega
      have g2 : (cp.take k.toNat).length + 1 + (cp.drop k.toNat).length ≤ 16777216 := by rw [List.length_take, List.length_drop]; omega
      have pf := put s7 k.toNat (1 + v) inner (some (.p x)) (some (.p (.tuple ip))) (some (.p (.int k))) e d7 (by omega) (by omega) h3 h4 h5
      rw [hin] at pf
      simp only [List.length_take, List.length_drop] at g1 g2
      simp [c1, c2, g1, g2]
      exact pf
    simp [turnS_app]
    try simp only [sat_fin, sat_nxt, sat_st, sat_and]
    refine (law_steps HP h73 n (m := 4) d3.ok (by omega) (by omega) w0 w1 z0 z1).imp ?_
    rintro _ s4 ⟨d4, ⟨ys, rfl, hyl, hy⟩⟩
    replace d4 := d3.trans d4
    rw [sim_map]
    have yl : ((ys.map Cmd.s).map cmdP).length = ys.length := by simp
    have r0 := fun s5 d5 => rest s5 (ys.map Cmd.s) e d5 (by simp; omega) (sim_in hy) (by rw [sim_wt]; omega)
    generalize hip : (ys.map Cmd.s).map cmdP = ip at *
    simp
    try simp only [sat_fin, sat_nxt, sat_st, sat_and]
    refine (draw HP (n + 1) d4.ok (by omega) (by omega)).imp ?_
    rintro _ s5 ⟨b2, rfl, b0, b1, d5⟩
    replace d5 := d4.trans d5
    by_cases q : b2 = 0
    · simp [q]
      try simp only [sat_fin, sat_nxt, sat_st, sat_and]
      refine (draw HP (n + 1) d5.ok (by omega) (by omega)).imp ?_
      rintro _ s6 ⟨v, rfl, v0, v1, d6⟩
      replace d6 := d5.trans d6
      simp
      try simp only [sat_fin, sat_nxt, sat_st, sat_and]
      refine (law_steps HP h73 n (m := 3) d6.ok (by omega) (by omega) w0 w1 z0 z1).imp ?_
      rintro _ s7 ⟨d7, ⟨zs, rfl, hzl, hz⟩⟩
      replace d7 := d6.trans d7
      have zl : (zs.map simP).length = zs.length := by simp
      have zi : CmdIn w z t (.r (1 + v) (zs.map Cmd.s)) 1 := by
        simp only [CmdIn]
        exact ⟨by decide, by omega, by omega, by simp; omega, sim_in hz⟩
      have r2 := rest s7 (ys.map Cmd.s ++ [Cmd.r (1 + v) (zs.map Cmd.s)]) (some (.p (.int (1 + v)))) d7 (by simp; omega) (ins_app.mpr ⟨sim_in hy, by simp only [CmdsIn]; exact ⟨zi, trivial⟩⟩) (by rw [wts_app, sim_wt]; simp only [wts, wt, sim_wt]; omega)
      have ee : (ys.map Cmd.s ++ [Cmd.r (1 + v) (zs.map Cmd.s)]).map cmdP = ip ++ [.tuple [.str "repeat", .int (1 + v), .tuple (zs.map simP)]] := by
        rw [List.map_append, hip, sim_map zs]
        simp [cmdP, cmdsP_map]
      rw [ee] at r2
      generalize zs.map simP = zp at *
      have g : ip.length + 1 ≤ 16777216 := by omega
      simp [g] at r2 ⊢
      iterate 6 ((try simp at r2); (try simp only [sat_fin, sat_nxt, sat_st, sat_and] at r2))
      iterate 6 ((try simp); (try simp only [sat_fin, sat_nxt, sat_st, sat_and]))
      exact r2
    · have := r0 s5 d5
      simp [q] at this ⊢
      exact this.imp (fun _ _ h => h) fun _ _ h => h.elim
  · rintro σ st ⟨cs, a, b, c, e, d3, ok, hl, hw, rfl⟩
    simp only [List.length_nil, Nat.add_zero] at hl hw
    have pe : PyData.tuple (cs.map cmdP) = progP cs := by unfold progP; rw [cmdsP_map]
    rw [pe]
    have tk : List.take s.length st = st := by rw [← d3.len, List.take_length]
    simp [tk]
    exact ⟨d3, ⟨cs, rfl, ok, hl, by omega⟩⟩
end
end Ev


end
section
namespace Own
open Ev
/-- order_after -/
def o92 : FD := ⟨2, 4, (.cons (.asg (.name 2) (.idx (.var 1) (.lit (.int 0)))) (.cons (.ife (.cmp .isin (.var 2) (.tup (.cons (.lit (.str "up")) (.cons (.lit (.str "down")) .nil)))) (.cons (.ret (.tup (.cons (.tup (.cons (.idx (.var 1) (.lit (.int 1))) (.cons (.var 2) .nil))) (.star (.comp (.var 3) (.name 3) (.e (.var 0)) (.some (.cmp .ne (.idx (.var 3) (.lit (.int 0))) (.idx (.var 1) (.lit (.int 1)))))) .nil)))) .nil) .nil) (.cons (.ife (.cmp .eq (.var 2) (.lit (.str "reverse"))) (.cons (.ret (.call 29 (.cons (.var 0) .nil))) .nil) .nil) (.cons (.ret (.ite (.cmp .eq (.var 2) (.lit (.str "restore"))) (.lit (.tuple [(.tuple [(.str "place"), (.str "up")])])) (.var 0))) .nil))))⟩
/-- turns_of -/
def o154 : FD := ⟨1, 1, (.cons (.ret (.bin .sub (.lit (.int 2)) (.bin .mod (.var 0) (.lit (.int 2))))) .nil)⟩
/-- picks_from -/
def o155 : FD := ⟨2, 8, (.cons (.asgL 2 (.lst .nil)) (.cons (.for (.name 3) (.e (.var 1)) (.cons (.asg (.star (.cons (.name 4) .nil) 6 .nil) (.var 3)) (.cons (.ife (.cmp .eq (.var 4) (.lit (.str "repeat"))) (.cons (.for (.name 5) (.rng1 (.call 154 (.cons (.idx (.var 6) (.lit (.int 0))) .nil))) (.cons (.asg (.tup (.cons (.name 7) (.cons (.name 0) .nil))) (.call 155 (.cons (.var 0) (.cons (.idx (.var 6) (.lit (.int 1))) .nil)))) (.cons (.expr (.mth .extend (.var 2) (.cons (.var 7) .nil))) .nil))) .nil) (.cons (.ife (.cmp .eq (.var 4) (.lit (.str "first"))) (.cons (.expr (.mth .append (.var 2) (.cons (.tup (.cons (.var 0) (.cons (.idx (.var 6) (.lit (.int 0))) .nil))) .nil))) .nil) (.cons (.ife (.cmp .eq (.var 4) (.lit (.str "last"))) (.cons (.expr (.mth .append (.var 2) (.cons (.tup (.cons (.call 29 (.cons (.var 0) .nil)) (.cons (.idx (.var 6) (.lit (.int 0))) .nil))) .nil))) .nil) (.cons (.asg (.name 0) (.call 92 (.cons (.var 0) (.cons (.var 3) .nil)))) .nil)) .nil)) .nil)) .nil))) (.cons (.ret (.tup (.cons (.var 2) (.cons (.var 0) .nil)))) .nil)))⟩
/-- shortened -/
def o156 : FD := ⟨1, 6, (.cons (.asgL 1 (.lst .nil)) (.cons (.for (.tup (.cons (.name 2) (.cons (.name 3) .nil))) (.e (.var 0)) (.cons (.ife (.or (.cmp .eq (.var 1) (.lst .nil)) (.cmp .lt (.var 3) (.idx (.idx (.var 1) (.neg (.lit (.int 1)))) (.lit (.int 1))))) (.cons (.expr (.mth .append (.var 1) (.cons (.tup (.cons (.var 2) (.cons (.var 3) .nil))) .nil))) .nil) .nil) .nil)) (.cons (.frz 1) (.cons (.ret (.blt .tuple (.cons (.comp (.var 4) (.tup (.cons (.name 4) (.cons (.name 5) .nil))) (.zip (.var 1) (.bin .add (.slc (.var 1) (.some (.lit (.int 1))) .none) (.lst (.cons (.tup (.cons (.lit .none) (.cons (.lit (.int 0)) .nil))) .nil)))) (.some (.cmp .ne (.idx (.var 4) (.lit (.int 0))) (.idx (.var 5) (.lit (.int 0)))))) .nil))) .nil))))⟩
/-- form_of -/
def o157 : FD := ⟨1, 3, (.cons (.asg (.tup (.cons (.name 1) (.cons (.name 2) .nil))) (.call 155 (.cons (.lit (.tuple [(.tuple [(.str "place"), (.str "up")])])) (.cons (.var 0) .nil)))) (.cons (.ret (.tup (.cons (.call 156 (.cons (.var 1) .nil)) (.cons (.var 2) .nil)))) .nil))⟩
/-- normal_form -/
def o669 : FD := ⟨1, 1, (.cons (.expr (.call 83 (.cons (.var 0) .nil))) (.cons (.ret (.call 157 (.cons (.var 0) .nil))) .nil))⟩
end Own
namespace Ev
open PySem PySem.Spec PyProof.Rows L2 Own
/-! ### present orders -/
abbrev Od := List (Int × Bool) × Bool
def odP (o : Od) : P := ordP o.1 o.2
def turnO (o : Od) : Od := (o.1.map trn, !o.2)
def dropK (c : Int) (ks : List (Int × Bool)) : List (Int × Bool) := ks.filter fun k => !decide (k.1 = c)
def afterO (o : Od) : Sim → Od
  | .srt b c => ((c, b) :: dropK c o.1, o.2)
  | .rev => turnO o
  | .res => ([], true)
  | .cut _ _ => o
abbrev OdOk (o : Od) : Prop := KeysOk 4 o.1
theorem nodup_len : ∀ (m : Nat) (l : List Int), l.Nodup → (∀ k, k ∈ l → 0 ≤ k ∧ k < m) → l.length ≤ m
  | 0, l, _, h => by
    cases l with
    | nil => exact Nat.le_refl _
    | cons a l => have := h a List.mem_cons_self; omega
  | m + 1, l, nd, h => by
    have i := nodup_len m (l.erase (m : Int)) (nd.erase _) fun k hk => by
      have := (nd.mem_erase_iff).mp hk
      have h2 := h k this.2
      have h3 := this.1
      omega
    have := List.length_erase (a := (m : Int)) (l := l)
    split at this <;> omega
theorem OdOk.len {o : Od} (h : OdOk o) : o.1.length ≤ 4 := by
  have := nodup_len 4 (o.1.map (·.1)) h.nod fun k hk => by
    obtain ⟨q, hq, rfl⟩ := List.mem_map.mp hk
    exact h.rng q hq
  rwa [List.length_map] at this
theorem OdOk.turn {o : Od} (h : OdOk o) : OdOk (turnO o) := keys_trn h
theorem OdOk.nil (u : Bool) : OdOk ([], u) := ⟨List.nodup_nil, fun k hk => by cases hk⟩
theorem OdOk.after {o : Od} (h : OdOk o) {x : Sim} (hx : SimOk x) : OdOk (afterO o x) := by
  cases x with
  | srt b c =>
    refine ⟨?_, ?_⟩
    · show ((c, b).1 :: (dropK c o.1).map (·.1)).Nodup
      rw [List.nodup_cons]
      refine ⟨fun hm => ?_, ?_⟩
      · obtain ⟨k, hk, e⟩ := List.mem_map.mp hm
        have := (List.mem_filter.mp hk).2
        simp [e] at this
      · exact List.Nodup.sublist (List.Sublist.map _ List.filter_sublist) h.nod
    · intro k hk
      rcases List.mem_cons.mp hk with rfl | hk
      · have h0 := hx.1
        have h1 := hx.2
        exact ⟨h0, by show c < 4; omega⟩
      · exact h.rng k (List.mem_filter.mp hk).1
  | rev => exact h.turn
  | res => exact OdOk.nil true
  | cut f m => exact h
/-! ### picks -/
abbrev Pk := Od × Int
def pickP (p : Pk) : P := .tuple [odP p.1, .int p.2]
def simPk (o : Od) : Sim → List Pk
  | .cut true m => [(o, m)]
  | .cut false m => [(turnO o, m)]
  | _ => []
mutual
def pkC : Cmd → Od → List Pk × Od
  | .s x, o => (simPk o x, afterO o x)
  | .r t b, o => if t % 2 = 0 then ((pkB b o).1 ++ (pkB b (pkB b o).2).1, (pkB b (pkB b o).2).2) else pkB b o
def pkB : List Cmd → Od → List Pk × Od
  | [], o => ([], o)
  | c :: cs, o => ((pkC c o).1 ++ (pkB cs (pkC c o).2).1, (pkB cs (pkC c o).2).2)
end
def simN : Sim → Nat
  | .cut _ _ => 1
  | _ => 0
mutual
def pkN : Cmd → Nat
  | .s x => simN x
  | .r t b => if t % 2 = 0 then pkNs b + pkNs b else pkNs b
def pkNs : List Cmd → Nat
  | [] => 0
  | c :: cs => pkN c + pkNs cs
end
theorem simPk_len (o : Od) (x : Sim) : (simPk o x).length = simN x := by
  cases x with
  | cut f m => cases f <;> rfl
  | _ => rfl
mutual
theorem pkC_len : ∀ (c : Cmd) (o : Od), (pkC c o).1.length = pkN c
  | .s x, o => by simp only [pkC, pkN, simPk_len]
  | .r t b, o => by
    simp only [pkC, pkN]
    split
    · rw [List.length_append, pkB_len b, pkB_len b]
    · exact pkB_len b o
theorem pkB_len : ∀ (cs : List Cmd) (o : Od), (pkB cs o).1.length = pkNs cs
  | [], o => by simp only [pkB, pkNs, List.length_nil]
  | c :: cs, o => by simp only [pkB, pkNs, List.length_append, pkC_len c, pkB_len cs]
end
mutual
theorem pkC_ok : ∀ (c : Cmd) {d : Nat} {o : Od}, CmdOk c d → OdOk o → OdOk (pkC c o).2
  | .s x, _, o, h, ok => by
    simp only [CmdOk] at h
    simp only [pkC]
    exact ok.after h
  | .r t b, _, o, h, ok => by
    simp only [CmdOk] at h
    simp only [pkC]
    have i := pkB_ok b h.2.2.2.2 ok
    split
    · exact pkB_ok b h.2.2.2.2 i
    · exact i
theorem pkB_ok : ∀ (cs : List Cmd) {d : Nat} {o : Od}, CmdsOk cs d → OdOk o → OdOk (pkB cs o).2
  | [], _, _, _, ok => by simp only [pkB]; exact ok
  | c :: cs, _, o, h, ok => by
    simp only [CmdsOk] at h
    simp only [pkB]
    exact pkB_ok cs h.2 (pkC_ok c h.1 ok)
end
theorem pkN_le : ∀ {cs : List Cmd} {c : Cmd}, c ∈ cs → pkN c ≤ pkNs cs
  | x :: xs, c, h => by
    simp only [pkNs]
    rcases List.mem_cons.mp h with rfl | h
    · omega
    · have := pkN_le h; omega
/-- a comprehension with any number of items at each turn, nothing written -/
theorem comp_bind {f : P → M (List P)} (g : P → List P) {s : Store} : ∀ {xs acc : List P}, (∀ x, x ∈ xs → f x s = .ok (g x) s) → acc.length + (xs.flatMap g).length < 16777216 → compGo f xs acc s = .ok (acc ++ xs.flatMap g) s
  | [], acc, _, _ => by rw [List.flatMap_nil, List.append_nil]; rfl
  | x :: xs, acc, h, hl => by
    rw [List.flatMap_cons, List.length_append] at hl
    rw [compGo_step, h x List.mem_cons_self, and_ok, if_pos (by omega), comp_bind g (fun y hy => h y (List.mem_cons_of_mem _ hy)) (by rw [List.length_append]; omega), List.flatMap_cons, List.append_assoc]
@[simp] theorem takes_map (xs : List P) (s : Store) : takes (xs.map D.p) s = .ok xs s := by
  induction xs with
  | nil => rfl
  | cons x xs ih => rw [List.map_cons, takes_p, ih, and_ok]
theorem takes_lp {s : Store} {i : Nat} {xs : List P} (d : P) (h : rd s i = some (.lst (xs.map D.p))) : takes [.loc i, .p d] s = .ok [.list xs, d] (wr s i .dead) := by
  have e := take_lo (s := s) (i := i) (xs := xs) h
  show Res.and (take (.loc i) s) (fun p s => Res.and (takes [.p d] s) fun ps s => .ok (p :: ps) s) = _
  rw [e, and_ok, takes_p, takes_nil, and_ok, and_ok]
  rfl
section
variable {T : Tab} {L : Nat → Bool}
structure HNf (T : Tab) : Prop where
  tn : HTurn T
  t92 : T 92 = some o92
  t154 : T 154 = some o154
  t155 : T 155 = some o155
  t156 : T 156 = some o156
  t157 : T 157 = some o157
theorem eq_place_int (i : Int) : eqP (.str (PySem.Str.ofString "place")) (.int i) = some false := by
  rw [eqP_g (gd_str _ (str_lit _)) (gd_int i) (by decide : (0 : Nat) ≤ 64)]
  simp only [PyData.eqv]
theorem eq_ints (i j : Int) : eqP (.int i) (.int j) = some (decide (i = j)) := by
  rw [eqP_g (gd_int i) (gd_int j) (by decide : (0 : Nat) ≤ 64)]
  simp only [PyData.eqv]
  congr 1
def dropF (c : Int) (x : P) : List P := match x with
  | .tuple (.int i :: _) => if i = c then [] else [x]
  | _ => [x]
theorem drop_map (c : Int) (ks : List (Int × Bool)) (u : Bool) : (ks.map keyP ++ [plP u]).flatMap (dropF c) = (dropK c ks).map keyP ++ [plP u] := by
  induction ks with
  | nil => rfl
  | cons k ks ih =>
    rw [List.map_cons, List.cons_append, List.flatMap_cons, ih]
    unfold dropK
    by_cases h : k.1 = c <;> simp [keyP, h, dropF]
theorem order_after' (tn : HTurn T) (h92 : T 92 = some o92) (n : Nat) {o : Od} (ok : OdOk o) (x : Sim) (s : Store) : callF T L (n + 3) 92 [.p (odP o), .p (simP x)] s = .ok (.p (odP (afterO o x))) s := by
  have l4 := ok.len
  obtain ⟨ks, u⟩ := o
  have l4' : ks.length ≤ 4 := l4
  rw [callF_app h92 _ _ rfl]
  have t := turned_order (L := L) tn n (ks := ks) (u := u) (by omega)
  cases x with
  | srt b c =>
    have it : items (ordP ks u) = some (ks.map keyP ++ [plP u]) := rfl
    have len : ((dropK c ks).map keyP ++ [plP u]).length ≤ 5 := by
      have : (dropK c ks).length ≤ ks.length := List.length_filter_le _ _
      simp only [List.length_append, List.length_map, List.length_singleton]
      omega
    have hc := fun (w : String) => comp_bind (f := turnE (callF T L (n + 2)) s.length [some (.p (ordP ks u)), some (.p (.tuple [.str (PySem.Str.ofString w), .int c])), some (.p (.str (PySem.Str.ofString w))), none] (.var 3) (.name 3) (.some (.cmp .ne (.idx (.var 3) (.lit (.int 0))) (.idx (.var 1) (.lit (.int 1))))))
      (dropF c) (s := s) (xs := ks.map keyP ++ [plP u]) (acc := []) (fun x hx => by
        rcases List.mem_append.mp hx with h | h
        · obtain ⟨k, _, rfl⟩ := List.mem_map.mp h
          by_cases e : k.1 = c <;> simp [turnE_app, keyP, eq_ints, e, dropF]
        · rw [List.mem_singleton.mp h]
          simp [turnE_app, plP, eq_place_int, dropF]) (by rw [drop_map]; simp only [List.length_nil]; omega)
    simp only [drop_map, List.nil_append] at hc
    have fin : ∀ w : Bool, PyData.tuple (PyData.tuple [.int c, dirP w] :: ((dropK c ks).map keyP ++ [plP u])) = odP (afterO (ks, u) (.srt w c)) := fun w => by
      simp only [odP, afterO, ordP, List.map_cons, List.cons_append, keyP]
    generalize (dropK c ks).map keyP ++ [plP u] = X at *
    have xl : X.length + 1 ≤ 16777216 := by omega
    cases b with
    | true =>
      have f := fin true
      simp only [dirP, if_true] at f
      rw [← f]
      simp [o92, odP, simP, it, hc, xl]
    | false =>
      have f := fin false
      simp only [dirP, Bool.false_eq_true, if_false] at f
      rw [← f]
      simp [o92, odP, simP, it, hc, xl]
  | rev => simp [o92, odP, simP, t, afterO, turnO]
  | res => simp [o92, odP, simP, afterO]; rfl
  | cut f m => cases f <;> simp [o92, odP, simP, afterO]
/-! ### picks_from -/
theorem order_after (H : HNf T) (n : Nat) {o : Od} (ok : OdOk o) (x : Sim) (s : Store) : callF T L (n + 3) 92 [.p (odP o), .p (simP x)] s = .ok (.p (odP (afterO o x))) s := order_after' H.tn H.t92 n ok x s
theorem turns_of (H : HNf T) (n : Nat) (t : Int) (s : Store) : callF T L (n + 1) 154 [.p (.int t)] s = .ok (.p (.int (if t % 2 = 0 then 2 else 1))) s := by
  rw [callF_app H.t154 _ _ rfl]
  have b := bin_mod (j := 2) (by decide) t
  have e : (2 : Int) - t % 2 = if t % 2 = 0 then 2 else 1 := by split <;> omega
  simp [o154, b, e]
def pkRes (r : List Pk × Od) : P := .tuple [.list (r.1.map pickP), odP r.2]
structure PkI (s : Store) (R : List Pk × Od) (x0 : P) (d m : Nat) (T : Tab) (L : Nat → Bool) (xs : List P) (σ : Env) (st : Store) : Prop where
  ex : ∃ (cs : List Cmd) (ps : List Pk) (o : Od) (a b c e f : Option D), xs = cs.map cmdP ∧ CmdsOk cs d ∧ OdOk o ∧ ps ++ (pkB cs o).1 = R.1 ∧ (pkB cs o).2 = R.2 ∧ st = s ++ [.lst ((ps.map pickP).map D.p)] ∧
    (∀ t b, Cmd.r t b ∈ cs → ∀ o, OdOk o → ∀ s, callF T L m 155 [.p (odP o), .p (progP b)] s = .ok (.p (pkRes (pkB b o))) s) ∧
    σ = [some (.p (odP o)), some (.p x0), some (.loc s.length), a, b, c, e, f]
theorem picks_step (H : HNf T) (m : Nat) {d : Nat} {cs : List Cmd} {o : Od} (hc : CmdsOk cs d) (ok : OdOk o) (hN : pkNs cs ≤ 100000) (m3 : 3 ≤ m)
    (ih : ∀ t b, Cmd.r t b ∈ cs → ∀ o, OdOk o → ∀ s, callF T L m 155 [.p (odP o), .p (progP b)] s = .ok (.p (pkRes (pkB b o))) s) (s : Store) :
    callF T L (m + 1) 155 [.p (odP o), .p (progP cs)] s = .ok (.p (pkRes (pkB cs o))) s := by
  suffices g : (callF T L (m + 1) 155 [.p (odP o), .p (progP cs)] s).sat fun d s' => d = .p (pkRes (pkB cs o)) ∧ s' = s by
    obtain ⟨d, s', e, rfl, rfl⟩ := sat_ex g
    exact e
  rw [callF_app H.t155 _ _ rfl]
  obtain ⟨m, rfl⟩ : ∃ k, m = k + 3 := ⟨m - 3, by omega⟩
  have e : progP cs = .tuple (cs.map cmdP) := by unfold progP; rw [cmdsP_map]
  rw [e]
  have RL : (pkB cs o).1.length ≤ 100000 := by rw [pkB_len]; exact hN
  simp [o155, -List.map_map]
  try simp only [sat_fin, sat_nxt, sat_st, sat_and]
  refine (for_sat (PkI s (pkB cs o) (.tuple (cs.map cmdP)) d (m + 3) T L) ⟨cs, [], o, none, none, none, none, none, rfl, hc, ok, rfl, rfl, rfl, ih, rfl⟩ ?_).imp ?_ fun _ _ h => h
  · rintro x r σ st ⟨cs', ps, o', a, b, c, e, f, hx, hc', ok', h1, h2, rfl, ih', rfl⟩
    cases cs' with
    | nil => simp at hx
    | cons cc cs2 =>
      simp only [List.map_cons, List.cons.injEq] at hx
      obtain ⟨rfl, rfl⟩ := hx
      have hk := (oks_all.mp hc') cc List.mem_cons_self
      have hc2 : CmdsOk cs2 d := by simp only [CmdsOk] at hc'; exact hc'.2
      simp only [pkB] at h1 h2
      have ih2 : ∀ t b, Cmd.r t b ∈ cs2 → ∀ o, OdOk o → ∀ s, callF T L (m + 3) 155 [.p (odP o), .p (progP b)] s = .ok (.p (pkRes (pkB b o))) s := fun t b hm => ih' t b (List.mem_cons_of_mem _ hm)
      have len1 : ps.length + pkN cc ≤ 100000 := by
        have := congrArg List.length h1
        rw [List.length_append, List.length_append, pkC_len] at this
        omega
      have done : ∀ (qs : List Pk) (o2 : Od) (a b c e f : Option D), pkC cc o' = (qs, o2) → PkI s (pkB cs o) (.tuple (cs.map cmdP)) d (m + 3) T L (cs2.map cmdP) [some (.p (odP o2)), some (.p (.tuple (cs.map cmdP))), some (.loc s.length), a, b, c, e, f] (s ++ [.lst ((ps.map pickP).map D.p ++ (qs.map pickP).map D.p)]) := fun qs o2 a b c e f hq => by
        have okk := pkC_ok cc hk ok'
        rw [hq] at h1 h2 okk
        exact ⟨cs2, ps ++ qs, o2, a, b, c, e, f, rfl, hc2, okk, by rw [List.append_assoc]; exact h1, h2, by rw [List.map_append, List.map_append], ih2, rfl⟩
      have r1 := fun (ls : List D) => rd_app_r (s := s) (ls := [.lst ls]) (n := s.length) (k := 0) rfl
      have w1 := fun (ls : List D) (ob : Ob) => wr_app_r (s := s) (ls := [.lst ls]) (n := s.length) (k := 0) rfl ob
      have l4 := ok'.len
      have tn := turned_order (L := L) H.tn (m + 1) (ks := o'.1) (u := o'.2) (by omega)
      have tn2 : ∀ st, callF T L (m + 3) 29 [.p (odP o')] st = .ok (.p (odP (turnO o'))) st := tn
      have oa := fun x => order_after (L := L) H m ok' x
      generalize hP : ps.map pickP = pp at *
      have ppl : pp.length = ps.length := by rw [← hP, List.length_map]
      generalize cs.map cmdP = X at *
      cases cc with
      | s x =>
        cases x with
        | srt u c0 =>
          have dn := fun a b c e f => done [] (afterO o' (.srt u c0)) a b c e f (by simp only [pkC, simPk])
          have oa1 := oa (.srt u c0)
          simp only [simP] at oa1
          generalize afterO o' (.srt u c0) = o2 at *
          cases u <;> (simp [turnS_app, cmdP, simP] at oa1 ⊢; simp [oa1]; simpa using dn _ _ _ _ _)
        | rev =>
          have dn := fun a b c e f => done [] (afterO o' .rev) a b c e f (by simp only [pkC, simPk])
          have oa1 := oa .rev
          simp only [simP] at oa1
          generalize afterO o' .rev = o2 at *
          simp [turnS_app, cmdP, simP] at oa1 ⊢
          simp [oa1]
          simpa using dn _ _ _ _ _
        | res =>
          have dn := fun a b c e f => done [] (afterO o' .res) a b c e f (by simp only [pkC, simPk])
          have oa1 := oa .res
          simp only [simP] at oa1
          generalize afterO o' .res = o2 at *
          simp [turnS_app, cmdP, simP] at oa1 ⊢
          simp [oa1]
          simpa using dn _ _ _ _ _
        | cut ff c0 =>
          have g1 : pp.length < 16777216 := by omega
          cases ff with
          | true =>
            have dn := fun a b c e f => done [(o', c0)] o' a b c e f (by simp only [pkC, simPk, afterO])
            simp [turnS_app, cmdP, simP, r1, w1, g1]
            simpa [pickP] using dn _ _ _ _ _
          | false =>
            have dn := fun a b c e f => done [(turnO o', c0)] o' a b c e f (by simp only [pkC, simPk, afterO])
            simp [turnS_app, cmdP, simP, r1, w1, g1, tn2]
            simpa [pickP] using dn _ _ _ _ _
      | r t b =>
        have i1 := ih' t b List.mem_cons_self o' ok'
        have to := turns_of (L := L) H (m + 2) t
        have e2 : PyData.tuple (cmdsP b) = progP b := rfl
        have hb := hk
        simp only [CmdOk] at hb
        have ok2 := pkB_ok b hb.2.2.2.2 ok'
        have i2 := ih' t b List.mem_cons_self _ ok2
        have q1 : (pkB b o').1.length = pkNs b := pkB_len b _
        have q2 : (pkB b (pkB b o').2).1.length = pkNs b := pkB_len b _
        simp only [pkN] at len1
        by_cases ev : t % 2 = 0
        · have dn := fun a b2 c e f => done ((pkB b o').1 ++ (pkB b (pkB b o').2).1) (pkB b (pkB b o').2).2 a b2 c e f (by simp only [pkC, if_pos ev])
          rw [if_pos ev] at len1 to
          generalize pkB b o' = R1 at *
          generalize pkB b R1.2 = R2 at *
          have g1 : pp.length + (R1.1.map pickP).length ≤ 16777216 := by rw [List.length_map]; omega
          have g2 : pp.length + (R1.1.map pickP).length + (R2.1.map pickP).length ≤ 16777216 := by rw [List.length_map, List.length_map]; omega
          have rr : rngI 0 2 = [.int 0, .int 1] := rfl
          simp only [pkRes] at i1 i2
          rw [List.map_append] at dn
          generalize R1.1.map pickP = p1 at *
          generalize R2.1.map pickP = p2 at *
          simp [turnS_app, cmdP, e2, to, rr, forGo_step, i1, i2, r1, w1, g1, g2, rngOk_ok]
          simpa using dn _ _ _ _ _
        · have dn := fun a b2 c e f => done (pkB b o').1 (pkB b o').2 a b2 c e f (by simp only [pkC, if_neg ev])
          rw [if_neg ev] at len1 to
          generalize pkB b o' = R1 at *
          have g1 : pp.length + (R1.1.map pickP).length ≤ 16777216 := by rw [List.length_map]; omega
          have rr : rngI 0 1 = [.int 0] := rfl
          simp only [pkRes] at i1
          generalize R1.1.map pickP = p1 at *
          simp [turnS_app, cmdP, e2, to, rr, forGo_step, i1, r1, w1, g1, rngOk_ok]
          simpa using dn _ _ _ _ _
  · rintro σ st ⟨cs', ps, o', a, b, c, e, f, hx, hc', ok', h1, h2, rfl, ih', rfl⟩
    have : cs' = [] := by cases cs' with | nil => rfl | cons _ _ => simp at hx
    subst this
    simp only [pkB, List.append_nil] at h1 h2
    have r1 := fun (ls : List D) => rd_app_r (s := s) (ls := [.lst ls]) (n := s.length) (k := 0) rfl
    unfold pkRes
    rw [← h1, ← h2]
    generalize ps.map pickP = pp at *
    have tk := takes_lp (odP o') (r1 (pp.map D.p))
    have w1 := wr_app_r (s := s) (ls := [.lst (pp.map D.p)]) (n := s.length) (k := 0) rfl .dead
    simp [tk, w1]
theorem picks_from (H : HNf T) (n : Nat) : ∀ (d : Nat) (cs : List Cmd) (o : Od), CmdsOk cs d → OdOk o → pkNs cs ≤ 100000 → ∀ s : Store, callF T L (n + 4 + d) 155 [.p (odP o), .p (progP cs)] s = .ok (.p (pkRes (pkB cs o))) s
  | 0, cs, o, h, ok, hN, s => picks_step H (n + 3) h ok hN (by omega) (fun t b hm => by
    have := (oks_all.mp h) _ hm
    simp only [CmdOk] at this
    exact absurd this.1 (by decide)) s
  | d + 1, cs, o, h, ok, hN, s => picks_step H (n + 4 + d) h ok hN (by omega) (fun t b hm o' ok' s' => by
    have hk := (oks_all.mp h) _ hm
    simp only [CmdOk, Nat.add_sub_cancel] at hk
    have := pkN_le hm
    simp only [pkN] at this
    exact picks_from H n d b o' hk.2.2.2.2 ok' (by split at this <;> omega) s') s
/-! ### what is known of picks as data -/
theorem gd_od (o : Od) : Gd 2 (odP o) := by
  refine (gd_tup (k := 1) fun x hx => ?_)
  rcases List.mem_append.mp hx with z | z
  · obtain ⟨k, hk, rfl⟩ := List.mem_map.mp z
    exact gd_tup (k := 0) fun y hy => by
      simp only [List.mem_cons, List.not_mem_nil, or_false] at hy
      rcases hy with rfl | rfl
      · exact gd_int _
      · exact dir_ok _
  · rw [List.mem_singleton.mp z]
    exact gd_tup (k := 0) fun y hy => by
      simp only [List.mem_cons, List.not_mem_nil, or_false] at hy
      rcases hy with rfl | rfl
      · exact gd_str _ (str_lit _)
      · exact dir_ok _
theorem gd_pk (p : Pk) : Gd 3 (pickP p) := gd_tup (k := 2) fun y hy => by
  simp only [List.mem_cons, List.not_mem_nil, or_false] at hy
  rcases hy with rfl | rfl
  · exact gd_od _
  · exact (gd_int _).mono (by decide)
theorem gd_pks (ps : List Pk) : Gd 4 (.list (ps.map pickP)) := gd_list (k := 3) fun y hy => by
  obtain ⟨p, _, rfl⟩ := List.mem_map.mp hy
  exact gd_pk p
theorem eqv_dir (a b : Bool) : PyData.eqv (dirP a) (dirP b) = decide (a = b) := by
  have := eq_dir a b
  rw [eqP_g (dir_ok a) (dir_ok b) (by decide)] at this
  exact Option.some.inj this
theorem eqv_key (k l : Int × Bool) : PyData.eqv (keyP k) (keyP l) = decide (k = l) := by
  obtain ⟨a, b⟩ := k
  obtain ⟨c, d⟩ := l
  simp only [keyP, PyData.eqv, PyData.eqvAll, eqv_dir, Bool.and_true]
  by_cases h1 : a = c <;> by_cases h2 : b = d <;> simp [h1, h2]
theorem eqv_pl (u v : Bool) : PyData.eqv (plP u) (plP v) = decide (u = v) := by
  simp only [plP, PyData.eqv, PyData.eqvAll, eqv_dir, Bool.and_true, beq_self_eq_true, Bool.true_and]
theorem eqv_key_pl (k : Int × Bool) (v : Bool) : PyData.eqv (keyP k) (plP v) = false := by
  simp only [keyP, plP, PyData.eqv, PyData.eqvAll, Bool.false_and]
theorem eqv_pl_key (k : Int × Bool) (v : Bool) : PyData.eqv (plP v) (keyP k) = false := by
  simp only [keyP, plP, PyData.eqv, PyData.eqvAll, Bool.false_and]
theorem eqv_ods : ∀ (ks ls : List (Int × Bool)) (u v : Bool), PyData.eqvAll (ks.map keyP ++ [plP u]) (ls.map keyP ++ [plP v]) = decide ((ks, u) = (ls, v))
  | [], [], u, v => by simp only [List.map_nil, List.nil_append, PyData.eqvAll, eqv_pl, Bool.and_true]; simp
  | [], l :: ls, u, v => by simp only [List.map_nil, List.map_cons, List.nil_append, List.cons_append, PyData.eqvAll, eqv_pl_key, Bool.false_and]; simp
  | k :: ks, [], u, v => by simp only [List.map_nil, List.map_cons, List.nil_append, List.cons_append, PyData.eqvAll, eqv_key_pl, Bool.false_and]; simp
  | k :: ks, l :: ls, u, v => by
    simp only [List.map_cons, List.cons_append, PyData.eqvAll, eqv_key, eqv_ods ks ls u v]
    by_cases h1 : k = l <;> by_cases h2 : (ks, u) = (ls, v) <;> simp_all
theorem eqv_od (a b : Od) : PyData.eqv (odP a) (odP b) = decide (a = b) := by
  show PyData.eqv (.tuple _) (.tuple _) = _
  simp only [PyData.eqv]
  exact eqv_ods a.1 b.1 a.2 b.2
theorem eq_od (a b : Od) : eqP (odP a) (odP b) = some (decide (a = b)) := by
  rw [eqP_g (gd_od a) (gd_od b) (by decide), eqv_od]
theorem eq_od_none (a : Od) : eqP (odP a) .none = some false := by
  rw [eqP_g (gd_od a) (gd_none.mono (by decide)) (by decide)]
  show some (PyData.eqv (.tuple _) .none) = _
  simp only [PyData.eqv]
theorem eq_pks_nil (ps : List Pk) : eqP (.list (ps.map pickP)) (.list []) = some ps.isEmpty := by
  rw [eqP_g (gd_pks ps) (gd_list (xs := []) (k := 3) fun y hy => by cases hy) (by decide), eqv_list_nil]
  cases ps <;> rfl
/-! ### shortened -/
def ltLast (m : Int) (f : List Pk) : Bool := match f.getLast? with
  | none => true
  | some q => decide (m < q.2)
def shGo : List Pk → List Pk → List Pk
  | f, [] => f
  | f, p :: ps => if ltLast p.2 f then shGo (f ++ [p]) ps else shGo f ps
def keepR : List Pk → List Pk
  | [] => []
  | [p] => [p]
  | p :: q :: r => if p.1 = q.1 then keepR (q :: r) else p :: keepR (q :: r)
def short (ps : List Pk) : List Pk := keepR (shGo [] ps)
theorem shGo_len : ∀ (ps f : List Pk), (shGo f ps).length ≤ f.length + ps.length
  | [], f => by simp only [shGo, List.length_nil]; omega
  | p :: ps, f => by
    simp only [shGo]
    split
    · have := shGo_len ps (f ++ [p])
      simp only [List.length_append, List.length_cons, List.length_nil] at this ⊢
      omega
    · have := shGo_len ps f
      simp only [List.length_cons]; omega
theorem keepR_len : ∀ ps : List Pk, (keepR ps).length ≤ ps.length
  | [] => Nat.le_refl _
  | [_] => Nat.le_refl _
  | p :: q :: r => by
    have := keepR_len (q :: r)
    simp only [keepR]
    split <;> simp only [List.length_cons] at * <;> omega
theorem atI_last {α : Type} (xs : List α) (x : α) : L2.atI (xs ++ [x]) (-1) = some x := by
  unfold L2.atI L2.ixN
  rw [if_neg (by decide), if_pos (by rw [List.length_append, List.length_singleton]; omega)]
  show (xs ++ [x])[_]? = _
  rw [List.length_append, List.length_singleton, show ((-1 : Int) + ((xs.length + 1 : Nat) : Int)).toNat = xs.length by omega]
  simp
def pairK (x : P) : List P := match x with
  | .tuple [p, q] => (match p, q with
    | .tuple (a :: _), .tuple (b :: _) => if PyData.eqv a b then [] else [p]
    | _, _ => [p])
  | _ => []
theorem pair_pk (p q : Pk) : pairK (.tuple [pickP p, pickP q]) = if p.1 = q.1 then [] else [pickP p] := by
  simp only [pairK, pickP, eqv_od]
  by_cases h : p.1 = q.1 <;> simp [h]
theorem pair_end (p : Pk) : pairK (.tuple [pickP p, .tuple [.none, .int 0]]) = [pickP p] := by
  simp only [pairK, pickP]
  have : PyData.eqv (odP p.1) .none = false := by
    show PyData.eqv (.tuple _) .none = _
    simp only [PyData.eqv]
  rw [this]
  rfl
theorem keep_zip : ∀ ps : List Pk, (zipL (ps.map pickP) ((ps.drop 1).map pickP ++ [.tuple [.none, .int 0]])).flatMap pairK = (keepR ps).map pickP
  | [] => rfl
  | [p] => by
    simp only [List.drop_succ_cons, List.drop_nil, List.map_nil, List.nil_append, List.map_cons, zipL, List.zipWith_cons_cons, List.zipWith_nil_left, List.flatMap_cons, List.flatMap_nil, pair_end, keepR, List.append_nil]
  | p :: q :: r => by
    have i := keep_zip (q :: r)
    simp only [List.drop_succ_cons, List.drop_zero] at i ⊢
    have e : zipL ((p :: q :: r).map pickP) ((q :: r).map pickP ++ [.tuple [.none, .int 0]]) = .tuple [pickP p, pickP q] :: zipL ((q :: r).map pickP) (r.map pickP ++ [.tuple [.none, .int 0]]) := rfl
    rw [e, List.flatMap_cons, i, pair_pk]
    simp only [keepR]
    split <;> simp
theorem zip_mem {x : P} : ∀ {as bs : List P}, x ∈ zipL as bs → ∃ a, a ∈ as ∧ ∃ b, b ∈ bs ∧ x = .tuple [a, b]
  | [], _, h => by simp [zipL] at h
  | a :: as, [], h => by simp [zipL] at h
  | a :: as, b :: bs, h => by
    have h' : x ∈ .tuple [a, b] :: zipL as bs := h
    rcases List.mem_cons.mp h' with rfl | h'
    · exact ⟨a, List.mem_cons_self, b, List.mem_cons_self, rfl⟩
    · obtain ⟨c, hc, d, hd, e⟩ := zip_mem h'
      exact ⟨c, List.mem_cons_of_mem _ hc, d, List.mem_cons_of_mem _ hd, e⟩
theorem shortened (H : HNf T) (n : Nat) {ps : List Pk} (hl : ps.length ≤ 100000) (s : Store) : callF T L (n + 1) 156 [.p (.list (ps.map pickP))] s = .ok (.p (.tuple ((short ps).map pickP))) s := by
  suffices g : (callF T L (n + 1) 156 [.p (.list (ps.map pickP))] s).sat fun d s' => d = .p (.tuple ((short ps).map pickP)) ∧ s' = s by
    obtain ⟨d, s', e, rfl, rfl⟩ := sat_ex g
    exact e
  rw [callF_app H.t156 _ _ rfl]
  simp [o156, -List.map_map]
  try simp only [sat_fin, sat_nxt, sat_st, sat_and]
  refine (for_sat (fun xs σ st => ∃ (f rs : List Pk) (a b c e : Option D), xs = rs.map pickP ∧ shGo f rs = shGo [] ps ∧ f.length + rs.length ≤ 100000 ∧ st = s ++ [.lst ((f.map pickP).map D.p)] ∧
      σ = [some (.p (.list (ps.map pickP))), some (.loc s.length), a, b, c, e]) ⟨[], ps, none, none, none, none, rfl, rfl, by simpa using hl, rfl, rfl⟩ ?_).imp ?_ fun _ _ h => h
  · rintro x r σ st ⟨f, rs, a, b, c, e, hx, hg, hl2, rfl, rfl⟩
    cases rs with
    | nil => simp at hx
    | cons p rs =>
      simp only [List.map_cons, List.cons.injEq] at hx
      obtain ⟨rfl, rfl⟩ := hx
      simp only [shGo] at hg
      simp only [List.length_cons] at hl2
      have r1 := fun (ls : List D) => rd_app_r (s := s) (ls := [.lst ls]) (n := s.length) (k := 0) rfl
      have w1 := fun (ls : List D) (ob : Ob) => wr_app_r (s := s) (ls := [.lst ls]) (n := s.length) (k := 0) rfl ob
      have en := eq_pks_nil f
      have ty : pickP p = .tuple [odP p.1, .int p.2] := rfl
      generalize odP p.1 = op at *
      rcases List.eq_nil_or_concat f with rfl | ⟨f0, q, rfl⟩
      · have h1 : shGo ([] ++ [p]) rs = shGo [] ps := by
          rw [if_pos (by rfl)] at hg; exact hg
        simp [turnS_app, ty, r1, w1] at en ⊢
        exact ⟨[p], rs, by simpa [ty] using ⟨h1, by omega⟩⟩
      · have h1 : ltLast p.2 (f0 ++ [q]) = decide (p.2 < q.2) := by
          unfold ltLast
          simp
        rw [List.concat_eq_append] at *
        rw [h1] at hg
        have ty2 : pickP q = .tuple [odP q.1, .int q.2] := rfl
        have al : L2.atI (((f0 ++ [q]).map pickP).map D.p) (-1) = some (.p (pickP q)) := by
          rw [List.map_append, List.map_append]
          exact atI_last _ _
        have em : (f0 ++ [q]).isEmpty = false := by cases f0 <;> rfl
        rw [em] at en
        rw [ty2] at al
        have gl : ((f0 ++ [q]).map pickP).length < 16777216 := by rw [List.length_map]; omega
        generalize hF : f0 ++ [q] = F at *
        generalize hFP : F.map pickP = FP at *
        generalize odP q.1 = oq at *
        by_cases h2 : p.2 < q.2
        · rw [if_pos (decide_eq_true h2)] at hg
          simp [turnS_app, ty, r1, w1, en, al, h2, gl]
          exact ⟨F ++ [p], rs, rfl, hg, by rw [List.length_append, List.length_singleton]; omega, by rw [← List.map_map, List.map_append (f := pickP), hFP, List.map_append]; simp [ty]⟩
        · rw [if_neg (by simpa using h2)] at hg
          simp [turnS_app, ty, r1, w1, en, al, h2]
          exact ⟨F, rs, rfl, hg, by omega, by rw [← List.map_map, hFP]⟩
  · rintro σ st ⟨f, rs, a, b, c, e, hx, hg, hl2, rfl, rfl⟩
    have : rs = [] := by cases rs with | nil => rfl | cons _ _ => simp at hx
    subst this
    simp only [shGo] at hg
    simp only [List.length_nil, Nat.add_zero] at hl2
    have r1 := rd_app_r (s := s) (ls := [.lst ((f.map pickP).map D.p)]) (n := s.length) (k := 0) rfl
    have tk := take_lo (s := s ++ [.lst ((f.map pickP).map D.p)]) (i := s.length) (xs := f.map pickP) r1
    have w1 : (s ++ [Ob.lst ((f.map pickP).map D.p)]).set s.length .dead = s ++ [.dead] := wr_app_r (s := s) (ls := [.lst ((f.map pickP).map D.p)]) (n := s.length) (k := 0) rfl .dead
    rw [w1] at tk
    have ct : cutL (f.map pickP) (some 1) none = (f.drop 1).map pickP := by
      cases f with
      | nil => rfl
      | cons a f => rw [cut_from (by decide) (by simp; omega), ← List.map_drop]; rfl
    have kz := keep_zip f
    have gl : ((f.drop 1).map pickP).length + 1 ≤ 16777216 := by rw [List.length_map, List.length_drop]; omega
    have kl := keepR_len f
    have hsh : short ps = keepR f := by unfold short; rw [hg]
    rw [hsh]
    have hc := fun (y z : Option D) => comp_bind (f := turnE (callF T L n) s.length [some (.p (.list (ps.map pickP))), some (.p (.list (f.map pickP))), a, b, y, z] (.var 4) (.tup (.cons (.name 4) (.cons (.name 5) .nil))) (.some (.cmp .ne (.idx (.var 4) (.lit (.int 0))) (.idx (.var 5) (.lit (.int 0))))))
      pairK (s := s ++ [.dead]) (xs := zipL (f.map pickP) ((f.drop 1).map pickP ++ [.tuple [.none, .int 0]])) (acc := []) (fun x hx => by
        obtain ⟨y1, hy1, q, hq, rfl⟩ := zip_mem hx
        obtain ⟨p, _, rfl⟩ := List.mem_map.mp hy1
        rcases List.mem_append.mp hq with hq | hq
        · obtain ⟨q, _, rfl⟩ := List.mem_map.mp hq
          rw [pair_pk]
          have e1 := eq_od p.1 q.1
          have n1 : pickP p = .tuple [odP p.1, .int p.2] := rfl
          have n2 : pickP q = .tuple [odP q.1, .int q.2] := rfl
          rw [n1, n2]
          generalize odP p.1 = x1 at *
          generalize odP q.1 = x2 at *
          by_cases h : p.1 = q.1
          · rw [decide_eq_true h] at e1
            rw [if_pos h]
            simp [turnE_app, e1]
          · rw [decide_eq_false h] at e1
            rw [if_neg h]
            simp [turnE_app, e1]
        · rw [List.mem_singleton.mp hq, pair_end]
          have e1 := eq_od_none p.1
          simp [turnE_app, pickP, e1]) (by rw [kz]; simp only [List.length_nil, List.length_map]; omega)
    simp only [kz, List.nil_append] at hc
    generalize (keepR f).map pickP = K at *
    generalize (f.drop 1).map pickP = FD at *
    generalize f.map pickP = FP at *
    simp [tk, ct, gl, hc]
theorem short_len (ps : List Pk) : (short ps).length ≤ ps.length := by
  have h1 := keepR_len (shGo [] ps)
  have h2 := shGo_len ps []
  simp only [List.length_nil, Nat.zero_add] at h2
  exact Nat.le_trans h1 h2
/-! ### normal_form -/
def o0d : Od := ([], true)
def nfP (cs : List Cmd) : P := .tuple [.tuple ((short (pkB cs o0d).1).map pickP), odP (pkB cs o0d).2]
theorem form_of (H : HNf T) (n d : Nat) {cs : List Cmd} (h : CmdsOk cs d) (hN : pkNs cs ≤ 100000) (s : Store) : callF T L (n + 5 + d) 157 [.p (progP cs)] s = .ok (.p (nfP cs)) s := by
  rw [show n + 5 + d = (n + 4 + d) + 1 by omega, callF_app H.t157 _ _ rfl]
  have p := picks_from (L := L) H n d cs o0d h (OdOk.nil true) hN
  have s1 := shortened (L := L) H (n + 3 + d) (ps := (pkB cs o0d).1) (by rw [pkB_len]; exact hN)
  rw [show n + 3 + d + 1 = n + 4 + d by omega] at s1
  have e0 : odP o0d = .tuple [.tuple [.str "place", .str "up"]] := rfl
  rw [e0] at p
  unfold nfP
  generalize progP cs = x at *
  simp only [pkRes] at p
  generalize (short (pkB cs o0d).1).map pickP = X at *
  generalize (pkB cs o0d).1.map pickP = Y at *
  generalize odP (pkB cs o0d).2 = Z at *
  simp [o157, p, s1]
mutual
theorem pkN_wt : ∀ (c : Cmd) {d : Nat}, CmdOk c d → (pkN c : Int) ≤ 2 ^ d * wt c
  | .s x, d, _ => by
    have : (0 : Int) < 2 ^ d := Int.pow_pos (by decide)
    have h1 : simN x ≤ 1 := by cases x <;> simp [simN]
    simp only [pkN, wt]
    omega
  | .r t b, d, h => by
    simp only [CmdOk] at h
    obtain ⟨k, rfl⟩ : ∃ k, d = k + 1 := ⟨d - 1, by omega⟩
    have i := pkNs_wt b h.2.2.2.2
    rw [Nat.add_sub_cancel] at i
    have hp : (0 : Int) < 2 ^ k := Int.pow_pos (by decide)
    simp only [pkN, wt]
    rw [Int.pow_succ]
    have e : (2 : Int) ^ k * 2 * (1 + wts b) = 2 * 2 ^ k + 2 * (2 ^ k * wts b) := by
      rw [Int.mul_add, Int.mul_one, Int.mul_comm (2 ^ k) 2, Int.mul_assoc]
    rw [e]
    split <;> omega
theorem pkNs_wt : ∀ (cs : List Cmd) {d : Nat}, CmdsOk cs d → (pkNs cs : Int) ≤ 2 ^ d * wts cs
  | [], _, _ => by simp [pkNs, wts]
  | c :: cs, d, h => by
    simp only [CmdsOk] at h
    have a := pkN_wt c h.1
    have b := pkNs_wt cs h.2
    simp only [pkNs, wts]
    rw [Int.mul_add]
    omega
end
theorem normal_form (H : HNf T) (HP : HChk T) (h669 : T 669 = some o669) (n : Nat) {cs : List Cmd} (h : CmdsOk cs 3) (hw : wts cs ≤ 400) (s : Store) : callF T L (n + 10) 669 [.p (progP cs)] s = .ok (.p (nfP cs)) s := by
  have hN : pkNs cs ≤ 100000 := by
    have := pkNs_wt cs h
    have e : (2 : Int) ^ 3 = 8 := rfl
    rw [e] at this
    omega
  rw [callF_app h669 _ _ rfl]
  have c := check_program (L := L) HP n h hw
  have f := form_of (L := L) H (n + 1) 3 h hN
  generalize progP cs = x at *
  simp [o669, c, f]
end
end Ev


end
section
/-! Ev 45: equations at a store: sets, two fors. -/
namespace Ev
open PySem PySem.Spec PyProof.Rows L2
section
variable {cf : CF} {b : Nat} {σ : Env} {s : Store}
def kSetc (cf : CF) (b : Nat) (e : E) (t : Tg) (c : Eo) (σ : Env) (xs : List P) (s : Store) : Res D := Res.and (compGo (turnE cf b σ e t c) xs [] s) setG
theorem kSetc_app (e : E) (t : Tg) (c : Eo) (xs : List P) : kSetc cf b e t c σ xs s = Res.and (compGo (turnE cf b σ e t c) xs [] s) setG := rfl
@[simp] theorem ev_setc (e : E) (t : Tg) (it : I) (c : Eo) : evE cf b (.setc e t it c) σ s = Res.and (evI cf b it σ s) (kSetc cf b e t c σ) := by
  show Res.and (evI cf b it σ s) _ = _
  congr 1
  funext xs s
  unfold kSetc
  rw [show turnE cf b σ e t c = fun x => M.calm ((evTg cf b t (wipeE σ (slotsT t)) (.p x)).bnd fun σ' => (evC cf b c σ').bnd fun k => if k then (evE cf b e σ').bnd fun y => (take y).bnd fun q => M.ret [q] else M.ret []) from funext fun x => turnE_eq cf b σ e t c x]
  rfl
theorem toInts_i (ns : List Int) : toInts (ns.map PyData.int) = some ns := by
  induction ns with
  | nil => rfl
  | cons n ns ih => rw [List.map_cons]; unfold toInts; rw [ih]; rfl
theorem setG_i {ns : List Int} (h : ns.length < 4000) (s : Store) : setG (ns.map PyData.int) s = .ok (.iset (onceI ns)) s := by
  unfold setG
  rw [toInts_i]
  dsimp only
  rw [if_pos h]
  rfl
theorem sorted_set_s {ns : List Int} (h : ns.length < 64) (s : Store) : bltD .sorted [.iset ns] s = .ok (.p (.list ((sortI ns).map PyData.int))) s := by
  show (if ns.length < 64 then (M.ret (D.p (.list ((sortI ns).map PyData.int))) : M D) else M.bad) s = _
  rw [if_pos h]
  rfl
@[simp] theorem len_set_s (ns : List Int) (s : Store) : bltD .len [.iset ns] s = .ok (.p (.int ns.length)) s := rfl
@[simp] theorem set_t (xs : List P) (s : Store) : bltD .set [.p (.tuple xs)] s = setG xs s := rfl
theorem set_s {xs : List P} (h : isTup1 xs = false) (s : Store) : bltD .set [.p (.list xs)] s = setG xs s := by
  show (if isTup1 xs = true then setTup xs else setG xs) s = _
  rw [h]; rfl
@[simp] theorem set_si (ns : List Int) (s : Store) : bltD .set [.p (.list (ns.map PyData.int))] s = setG (ns.map PyData.int) s := set_s (by cases ns <;> rfl) s
@[simp] theorem len_tset_s (n : Nat) (s : Store) : bltD .len [.tset n] s = .ok (.p (.int n)) s := rfl
@[simp] theorem blt3_min3 (x y z : P) (s : Store) : bltD .min3 [.p x, .p y, .p z] s = Res.and (Res.ofO (bltP .min3 [x, y, z]) s) kRet := by
  show (M.bnd (M.opt (bltP .min3 [x, y, z])) (fun r => M.ret (D.p r))) s = _
  rw [bnd_app, opt_app]
  rfl
@[simp] theorem min3_i (i j k : Int) : bltP .min3 [.int i, .int j, .int k] = some (.int (if k < (if j < i then j else i) then k else (if j < i then j else i))) := rfl
theorem sorted_ti (ns : List Int) : bltP .sorted [.tuple (ns.map PyData.int)] = some (.list ((sortI ns).map PyData.int)) := by
  show sortT _ = _
  unfold sortT
  rw [toInts_i]
theorem sorted_li (ns : List Int) : bltP .sorted [.list (ns.map PyData.int)] = some (.list ((sortI ns).map PyData.int)) := by
  show sortL _ = _
  unfold sortL
  rw [toInts_i]
theorem toPairs_p : ∀ ps : List (Int × Int), toPairs (ps.map pairP) = some ps
  | [] => rfl
  | (i, j) :: r => by
    show (toPairs (r.map pairP)).map _ = _
    rw [toPairs_p r]
    rfl
theorem sorted_lp (ps : List (Int × Int)) : bltP .sorted [.list (ps.map pairP)] = some (.list ((sortPr ps).map pairP)) := by
  show sortL _ = _
  cases ps with
  | nil =>
    show some (PyData.list ((sortI []).map PyData.int)) = some (PyData.list ((sortPr []).map pairP))
    have e1 : sortI [] = [] := by simp [sortI]
    have e2 : sortPr [] = [] := by simp [sortPr]
    rw [e1, e2]
    rfl
  | cons p r =>
    unfold sortL
    have e : toInts ((p :: r).map pairP) = none := rfl
    rw [e, toPairs_p]
    rfl
theorem sorted_ud : bltP .sorted [.tuple [.str "up", .str "down"]] = some (.list [.str "down", .str "up"]) := by
  have e1 : sortedS [("up" : Str), "down"] = false := by decide +kernel
  have e2 : sortedS [("down" : Str), "up"] = true := by decide +kernel
  show sortT [PyData.str "up", PyData.str "down"] = _
  unfold sortT
  simp only [toInts, e1, e2]
  rfl
theorem bin_mul0 {xs : List P} (h : xs ≠ []) : binP .mul (.tuple xs) (.int 0) = some (.tuple []) := by
  have e : xs.isEmpty = false := by cases xs with
    | nil => exact absurd rfl h
    | cons a b => rfl
  show (if (xs.isEmpty || (0 : Int) == 1) && decide (-(2 ^ 63) ≤ (0 : Int)) && decide ((0 : Int) < 2 ^ 63) then some (PyData.tuple xs)
    else if !xs.isEmpty && decide (2 ≤ (0 : Int)) && decide (xs.length * (0 : Int).toNat ≤ line) then some (.tuple (List.replicate (0 : Int).toNat xs).flatten)
    else if !xs.isEmpty && decide ((0 : Int) ≤ 0) && decide (-(2 ^ 63) ≤ (0 : Int)) then some (.tuple []) else none) = _
  rw [e]
  rfl
/-! two fors -/
def kIn (cf : CF) (b : Nat) (e : E) (t' : Tg) (c' : Eo) (σ : Env) (zs : List P) (s : Store) : Res (List P) := compGo (turnE cf b σ e t' c') zs [] s
def kTwo (cf : CF) (b : Nat) (e : E) (t' : Tg) (it' : I) (c' : Eo) (σ : Env) (k : Bool) (s : Store) : Res (List P) := if k then Res.and (evI cf b it' σ s) (kIn cf b e t' c' σ) else .ok [] s
def kTwo1 (cf : CF) (b : Nat) (e : E) (c : Eo) (t' : Tg) (it' : I) (c' : Eo) (σ : Env) (s : Store) : Res (List P) := Res.and (evC cf b c σ s) (kTwo cf b e t' it' c' σ)
def turn2E (cf : CF) (b : Nat) (σ : Env) (e : E) (t : Tg) (c : Eo) (t' : Tg) (it' : I) (c' : Eo) (x : P) : M (List P) := fun s => Res.calm (Res.and (evTg cf b t (wipeE σ (slotsT t ++ slotsT t')) (.p x) s) (kTwo1 cf b e c t' it' c'))
theorem turn2E_app (e : E) (t : Tg) (c : Eo) (t' : Tg) (it' : I) (c' : Eo) (x : P) (s : Store) : turn2E cf b σ e t c t' it' c' x s = Res.calm (Res.and (evTg cf b t (wipeE σ (slotsT t ++ slotsT t')) (.p x) s) (kTwo1 cf b e c t' it' c')) := rfl
@[simp] theorem kTwo1_app (e : E) (c : Eo) (t' : Tg) (it' : I) (c' : Eo) (s : Store) : kTwo1 cf b e c t' it' c' σ s = Res.and (evC cf b c σ s) (kTwo cf b e t' it' c' σ) := rfl
@[simp] theorem kTwo_app (e : E) (t' : Tg) (it' : I) (c' : Eo) (k : Bool) (s : Store) : kTwo cf b e t' it' c' σ k s = if k then Res.and (evI cf b it' σ s) (kIn cf b e t' c' σ) else .ok [] s := rfl
@[simp] theorem kIn_app (e : E) (t' : Tg) (c' : Eo) (zs : List P) (s : Store) : kIn cf b e t' c' σ zs s = compGo (turnE cf b σ e t' c') zs [] s := rfl
def kComp2 (cf : CF) (b : Nat) (e : E) (t : Tg) (c : Eo) (t' : Tg) (it' : I) (c' : Eo) (σ : Env) (xs : List P) (s : Store) : Res D := Res.and (compGo (turn2E cf b σ e t c t' it' c') xs [] s) kLstI
@[simp] theorem kComp2_app (e : E) (t : Tg) (c : Eo) (t' : Tg) (it' : I) (c' : Eo) (xs : List P) (s : Store) : kComp2 cf b e t c t' it' c' σ xs s = Res.and (compGo (turn2E cf b σ e t c t' it' c') xs [] s) kLstI := rfl
theorem turn2E_eq (e : E) (t : Tg) (c : Eo) (t' : Tg) (it' : I) (c' : Eo) (x : P) : turn2E cf b σ e t c t' it' c' x = M.calm ((evTg cf b t (wipeE σ (slotsT t ++ slotsT t')) (.p x)).bnd fun σ' => (evC cf b c σ').bnd fun k =>
      if k then (evI cf b it' σ').bnd fun zs => compGo (fun z => M.calm ((evTg cf b t' (wipeE σ' (slotsT t')) (.p z)).bnd fun σ'' => (evC cf b c' σ'').bnd fun k' =>
        if k' then (evE cf b e σ'').bnd fun y => (take y).bnd fun q => M.ret [q] else M.ret [])) zs [] else M.ret []) := by
  funext s
  show _ = Res.calm (Res.and (evTg cf b t (wipeE σ (slotsT t ++ slotsT t')) (.p x) s) _)
  unfold turn2E
  congr 2
  funext σ' s
  show Res.and (evC cf b c σ' s) _ = Res.and (evC cf b c σ' s) _
  congr 1
  funext k s
  cases k with
  | false => rfl
  | true =>
    show Res.and (evI cf b it' σ' s) _ = Res.and (evI cf b it' σ' s) _
    congr 1
    funext zs s
    unfold kIn
    rw [show turnE cf b σ' e t' c' = fun x => M.calm ((evTg cf b t' (wipeE σ' (slotsT t')) (.p x)).bnd fun σ' => (evC cf b c' σ').bnd fun k => if k then (evE cf b e σ').bnd fun y => (take y).bnd fun q => M.ret [q] else M.ret []) from funext fun x => turnE_eq cf b σ' e t' c' x]
@[simp] theorem ev_comp2 (e : E) (t : Tg) (it : I) (c : Eo) (t' : Tg) (it' : I) (c' : Eo) : evE cf b (.comp2 e t it c t' it' c') σ s = Res.and (evI cf b it σ s) (kComp2 cf b e t c t' it' c' σ) := by
  show Res.and (evI cf b it σ s) _ = _
  congr 1
  funext xs s
  unfold kComp2
  rw [show turn2E cf b σ e t c t' it' c' = fun x => _ from funext fun x => turn2E_eq e t c t' it' c' x]
  rfl
end
end Ev

end
section
namespace Own
open Ev
/-- places_in -/
def o914 : FD := ⟨3, 9, (.cons (.asg (.name 3) (.blt .sorted (.cons (.var 1) .nil))) (.cons (.for (.tup (.cons (.name 4) (.cons (.name 5) .nil))) (.e (.rev (.var 2))) (.cons (.ife (.cmp .eq (.var 4) (.lit (.str "place"))) (.cons (.asg (.name 3) (.ite (.cmp .eq (.var 5) (.lit (.str "down"))) (.rev (.var 3)) (.var 3))) .nil) (.cons (.asg (.name 6) (.blt .sorted (.cons (.setc (.idx (.idx (.var 0) (.var 8)) (.var 4)) (.name 8) (.e (.var 3)) .none) .nil))) (.cons (.ife (.cmp .eq (.var 5) (.lit (.str "down"))) (.cons (.asg (.name 6) (.rev (.var 6))) .nil) .nil) (.cons (.asg (.name 3) (.comp2 (.var 8) (.name 7) (.e (.var 6)) .none (.name 8) (.e (.var 3)) (.some (.cmp .eq (.idx (.idx (.var 0) (.var 8)) (.var 4)) (.var 7))))) .nil)))) .nil)) (.cons (.ret (.blt .tuple (.cons (.var 3) .nil))) .nil)))⟩
/-- order_columns -/
def o33 : FD := ⟨1, 3, (.cons (.ret (.blt .tuple (.cons (.blt .sorted (.cons (.comp (.var 1) (.tup (.cons (.name 1) (.cons (.name 2) .nil))) (.e (.slc (.var 0) .none (.some (.neg (.lit (.int 1)))))) .none) .nil)) .nil))) .nil)⟩
/-- check_below -/
def o34 : FD := ⟨2, 3, (.cons (.for (.name 2) (.e (.var 1)) (.cons (.ife (.cmp .ge (.var 2) (.var 0)) (.cons .stop .nil) .nil) .nil)) .nil)⟩
/-- check_has -/
def o35 : FD := ⟨2, 2, (.cons (.expr (.call 34 (.cons (.call 5 (.cons (.var 0) .nil)) (.cons (.var 1) .nil)))) .nil)⟩
/-- places_by -/
def o915 : FD := ⟨2, 2, (.cons (.expr (.call 4 (.cons (.var 0) .nil))) (.cons (.expr (.call 28 (.cons (.var 1) .nil))) (.cons (.expr (.call 35 (.cons (.var 0) (.cons (.call 33 (.cons (.var 1) .nil)) .nil)))) (.cons (.ret (.call 914 (.cons (.var 0) (.cons (.lstI (.rng1 (.blt .len (.cons (.var 0) .nil)))) (.cons (.var 1) .nil))))) .nil))))⟩
/-- sorted_by -/
def o916 : FD := ⟨2, 3, (.cons (.ret (.blt .tuple (.cons (.comp (.idx (.var 0) (.var 2)) (.name 2) (.e (.call 915 (.cons (.var 0) (.cons (.var 1) .nil)))) .none) .nil))) .nil)⟩
end Own
namespace Ev
open PySem PySem.Spec PyProof.Rows L2 Own
/-! ### places in the sequence of an order -/
abbrev Tb := List (List Int)
abbrev Ky := List (Int × Bool)
structure Tk (c : Nat) (t : Tb) : Prop where
  ne : 1 ≤ t.length
  le : t.length ≤ 30
  row : ∀ r, r ∈ t → r.length = c
  c1 : 1 ≤ c
  c5 : c ≤ 5
theorem RowsOk.tk {c : Nat} {t : Tb} (h : RowsOk c t) (c1 : 1 ≤ c) (c5 : c ≤ 5) : Tk c t := ⟨h.ne, h.le, fun r hr => (h.row r hr).len, c1, c5⟩
/-- the value of a place in a column -/
def vl (t : Tb) (c : Int) (p : Nat) : Int := (t.getD p []).getD c.toNat 0
def plsP (ps : List Nat) : List P := ps.map fun p : Nat => PyData.int (p : Int)
def upL {α : Type} (up : Bool) (xs : List α) : List α := if up then xs else xs.reverse
def valsOf (t : Tb) (c : Int) (up : Bool) (ps : List Nat) : List Int := upL up (sortI (onceI (ps.map (vl t c))))
def keyStep (t : Tb) (k : Int × Bool) (ps : List Nat) : List Nat := (valsOf t k.1 k.2 ps).flatMap fun v => ps.filter fun p => decide (vl t k.1 p = v)
def sortN (ps : List Nat) : List Nat := (sortI (ps.map fun p : Nat => (p : Int))).map Int.toNat
def placesM (t : Tb) (ps : List Nat) (o : Ky × Bool) : List Nat := o.1.foldr (keyStep t) (upL o.2 (sortN ps))
/-- one place comes before another one -/
def befB (t : Tb) : Ky → Bool → Nat → Nat → Bool
  | [], u, a, b => if u then decide (a < b) else decide (b < a)
  | k :: ks, u, a, b => if vl t k.1 a = vl t k.1 b then befB t ks u a b else (decide (vl t k.1 a < vl t k.1 b) == k.2)
theorem upL_mem {α : Type} {up : Bool} {xs : List α} {x : α} : x ∈ upL up xs ↔ x ∈ xs := by
  cases up <;> simp [upL]
theorem sortI_mem {xs : List Int} {x : Int} : x ∈ sortI xs ↔ x ∈ xs := (sortI_perm xs).mem_iff
theorem vals_mem {t : Tb} {c : Int} {up : Bool} {ps : List Nat} {v : Int} : v ∈ valsOf t c up ps ↔ ∃ p, p ∈ ps ∧ vl t c p = v := by
  unfold valsOf
  rw [upL_mem, sortI_mem, once_mem, List.mem_map]
theorem step_mem {t : Tb} {k : Int × Bool} {ps : List Nat} {p : Nat} : p ∈ keyStep t k ps ↔ p ∈ ps := by
  unfold keyStep
  rw [List.mem_flatMap]
  constructor
  · rintro ⟨v, _, h⟩
    exact (List.mem_filter.mp h).1
  · intro h
    exact ⟨vl t k.1 p, vals_mem.mpr ⟨p, h, rfl⟩, List.mem_filter.mpr ⟨h, decide_eq_true rfl⟩⟩
theorem sorted_strict {xs : List Int} (h : xs.Nodup) : (sortI xs).Pairwise (· < ·) := by
  have s := sortI_sorted xs
  have n : (sortI xs).Nodup := (sortI_perm xs).nodup_iff.mpr h
  exact (List.Pairwise.and s n).imp fun ⟨a, b⟩ => by omega
theorem vals_pair (t : Tb) (c : Int) (up : Bool) (ps : List Nat) : (valsOf t c up ps).Pairwise fun a b => (decide (a < b) == up) = true ∧ a ≠ b := by
  unfold valsOf
  have s := sorted_strict (once_nodup (ps.map (vl t c)))
  cases up with
  | true => exact s.imp fun {a b} (h : a < b) => ⟨by simp [h], by omega⟩
  | false =>
    show (sortI _).reverse.Pairwise _
    rw [List.pairwise_reverse]
    exact s.imp fun {a b} (h : a < b) => ⟨by have : ¬ b < a := by omega
                                             simp [this], by omega⟩
theorem step_pair {t : Tb} {k : Int × Bool} {ks : Ky} {u : Bool} {ps : List Nat} (h : ps.Pairwise fun a b => befB t ks u a b = true) : (keyStep t k ps).Pairwise fun a b => befB t (k :: ks) u a b = true := by
  unfold keyStep
  rw [List.pairwise_flatMap]
  refine ⟨fun v _ => ?_, (vals_pair t k.1 k.2 ps).imp fun {a b} hab x hx y hy => ?_⟩
  · refine List.Pairwise.imp_of_mem ?_ (h.filter _)
    intro a b ha hb hab
    have e1 := of_decide_eq_true (List.mem_filter.mp ha).2
    have e2 := of_decide_eq_true (List.mem_filter.mp hb).2
    simp only [befB, e1, e2, if_true]
    exact hab
  · have e1 := of_decide_eq_true (List.mem_filter.mp hx).2
    have e2 := of_decide_eq_true (List.mem_filter.mp hy).2
    simp only [befB, e1, e2, if_neg hab.2]
    exact hab.1
theorem sortN_mem {ps : List Nat} {p : Nat} : p ∈ sortN ps ↔ p ∈ ps := by
  unfold sortN
  rw [List.mem_map]
  constructor
  · rintro ⟨x, hx, rfl⟩
    obtain ⟨q, hq, rfl⟩ := List.mem_map.mp (sortI_mem.mp hx)
    exact hq
  · exact fun h => ⟨(p : Int), sortI_mem.mpr (List.mem_map.mpr ⟨p, h, rfl⟩), rfl⟩
theorem sortN_pair {ps : List Nat} (nd : ps.Nodup) : (sortN ps).Pairwise (· < ·) := by
  unfold sortN
  have n2 : (ps.map fun p : Nat => (p : Int)).Nodup := List.pairwise_map.mpr (nd.imp fun {a b} h e => h (by omega))
  have s := sorted_strict n2
  refine List.pairwise_map.mpr (List.Pairwise.imp_of_mem ?_ s)
  intro a b ha hb hab
  obtain ⟨x, _, rfl⟩ := List.mem_map.mp (sortI_mem.mp ha)
  obtain ⟨y, _, rfl⟩ := List.mem_map.mp (sortI_mem.mp hb)
  show ((x : Int)).toNat < ((y : Int)).toNat
  omega
theorem befB_irr (t : Tb) : ∀ (ks : Ky) (u : Bool) (a : Nat), befB t ks u a a = false
  | [], u, a => by cases u <;> simp [befB]
  | k :: ks, u, a => by simp only [befB, if_true]; exact befB_irr t ks u a
theorem befB_asymm (t : Tb) : ∀ (ks : Ky) (u : Bool) (a b : Nat), a ≠ b → befB t ks u b a = !befB t ks u a b
  | [], u, a, b, h => by
    cases u
    · simp only [befB, Bool.false_eq_true, if_false]
      by_cases c : a < b
      · have : ¬ b < a := by omega
        simp [c, this]
      · have : b < a := by omega
        simp [c, this]
    · simp only [befB, if_true]
      by_cases c : a < b
      · have : ¬ b < a := by omega
        simp [c, this]
      · have : b < a := by omega
        simp [c, this]
  | k :: ks, u, a, b, h => by
    simp only [befB]
    by_cases e : vl t k.1 a = vl t k.1 b
    · rw [if_pos e, if_pos e.symm, befB_asymm t ks u a b h]
    · rw [if_neg e, if_neg fun x => e x.symm]
      by_cases c : vl t k.1 a < vl t k.1 b
      · have : ¬ vl t k.1 b < vl t k.1 a := by omega
        simp only [decide_eq_true c, decide_eq_false this]
        cases k.2 <;> rfl
      · have : vl t k.1 b < vl t k.1 a := by omega
        simp only [decide_eq_false c, decide_eq_true this]
        cases k.2 <;> rfl
/-- what the sequence is: each place once, each before the later ones -/
theorem fold_pair {t : Tb} {u : Bool} {ps : List Nat} (nd : ps.Nodup) : ∀ ks : Ky, (placesM t ps (ks, u)).Pairwise fun a b => befB t ks u a b = true
  | [] => by
    show (upL u (sortN ps)).Pairwise _
    have s := sortN_pair nd
    cases u with
    | true => exact s.imp fun {a b} (h : a < b) => by simp [befB, h]
    | false =>
      show (sortN ps).reverse.Pairwise _
      rw [List.pairwise_reverse]
      exact s.imp fun {a b} (h : a < b) => by simp [befB, h]
  | k :: ks => step_pair (fold_pair nd ks)
theorem places_mem {t : Tb} {u : Bool} {ps : List Nat} {p : Nat} : ∀ {ks : Ky}, p ∈ placesM t ps (ks, u) ↔ p ∈ ps
  | [] => by show p ∈ upL u (sortN ps) ↔ _; rw [upL_mem, sortN_mem]
  | k :: ks => step_mem.trans (places_mem (ks := ks))
theorem places_nodup {t : Tb} {o : Ky × Bool} {ps : List Nat} (nd : ps.Nodup) : (placesM t ps o).Nodup :=
  (fold_pair (t := t) (u := o.2) nd o.1).imp fun {a b} h e => by
    subst e
    rw [befB_irr] at h
    cases h
theorem places_perm {t : Tb} {o : Ky × Bool} {ps : List Nat} (nd : ps.Nodup) : (placesM t ps o).Perm ps :=
  (List.perm_ext_iff_of_nodup (places_nodup nd) nd).mpr fun _ => places_mem (ks := o.1) (u := o.2)
/-- there is but one such sequence -/
theorem places_uniq {t : Tb} {ks : Ky} {u : Bool} : ∀ {as bs : List Nat}, as.Perm bs → as.Pairwise (fun a b => befB t ks u a b = true) → bs.Pairwise (fun a b => befB t ks u a b = true) → as = bs := by
  intro as bs h ha hb
  refine List.Perm.eq_of_pairwise (le := fun a b => befB t ks u a b = true) (fun a b _ _ h1 h2 => ?_) ha hb h
  by_cases e : a = b
  · exact e
  · rw [befB_asymm t ks u a b e, h1] at h2
    cases h2
theorem places_eq {t : Tb} {ks : Ky} {u : Bool} {ps as : List Nat} (nd : ps.Nodup) (h : as.Perm ps) (ha : as.Pairwise fun a b => befB t ks u a b = true) : placesM t ps (ks, u) = as :=
  places_uniq ((places_perm nd).trans h.symm) (fold_pair nd ks) ha
theorem places_len {t : Tb} {o : Ky × Bool} {ps : List Nat} (nd : ps.Nodup) : (placesM t ps o).length = ps.length := (places_perm nd).length_eq
theorem step_nodup {t : Tb} {k : Int × Bool} {ps : List Nat} (nd : ps.Nodup) : (keyStep t k ps).Nodup := by
  have h : ps.Pairwise fun a b => a ≠ b := nd
  unfold keyStep
  show List.Pairwise _ _
  rw [List.pairwise_flatMap]
  refine ⟨fun v _ => h.filter _, (vals_pair t k.1 k.2 ps).imp fun {a b} hab x hx y hy e => ?_⟩
  have e1 := of_decide_eq_true (List.mem_filter.mp hx).2
  have e2 := of_decide_eq_true (List.mem_filter.mp hy).2
  rw [e] at e1
  exact hab.2 (e1.symm.trans e2)
theorem step_len {t : Tb} {k : Int × Bool} {ps : List Nat} (nd : ps.Nodup) : (keyStep t k ps).length = ps.length :=
  ((List.perm_ext_iff_of_nodup (step_nodup nd) nd).mpr fun _ => step_mem).length_eq
/-! ### the walk -/
theorem comp_bindE {α : Type} {f : P → M (List P)} (enc : α → P) (g : α → List P) {s : Store} : ∀ {cs : List α} {acc : List P}, (∀ c, c ∈ cs → f (enc c) s = .ok (g c) s) → acc.length + (cs.flatMap g).length < 16777216 → compGo f (cs.map enc) acc s = .ok (acc ++ cs.flatMap g) s
  | [], acc, _, _ => by rw [List.flatMap_nil, List.append_nil]; rfl
  | x :: xs, acc, h, hl => by
    rw [List.flatMap_cons, List.length_append] at hl
    rw [List.map_cons, compGo_step, h x List.mem_cons_self, and_ok, if_pos (by omega), comp_bindE enc g (fun y hy => h y (List.mem_cons_of_mem _ hy)) (by rw [List.length_append]; omega), List.flatMap_cons, List.append_assoc]
theorem comp_mapE {α : Type} {f : P → M (List P)} (enc g : α → P) {s : Store} {cs : List α} (h : ∀ c, c ∈ cs → f (enc c) s = .ok [g c] s) (hl : cs.length < 16777216) : compGo f (cs.map enc) [] s = .ok (cs.map g) s := by
  have e : ∀ cs : List α, cs.flatMap (fun c => [g c]) = cs.map g := fun cs => by
    induction cs with
    | nil => rfl
    | cons c cs ih => rw [List.flatMap_cons, ih]; rfl
  have := comp_bindE enc (fun c => [g c]) (acc := []) h (by rw [e, List.length_map, List.length_nil]; omega)
  rw [e] at this
  exact this
theorem tab_idx {t : Tb} {p : Nat} (h : p < t.length) : idxP (tabP t) (.int (p : Int)) = some (rowP (t.getD p [])) := by
  show L2.atI (t.map rowP) (p : Int) = _
  rw [atI_nat, List.getElem?_map, List.getElem?_eq_getElem h, List.getD_eq_getElem?_getD, List.getElem?_eq_getElem h]
  rfl
theorem row_idx {r : List Int} {c : Int} (h0 : 0 ≤ c) (h : c < r.length) : idxP (rowP r) (.int c) = some (.int (r.getD c.toNat 0)) := by
  obtain ⟨k, rfl⟩ := Int.eq_ofNat_of_zero_le h0
  have hk : k < r.length := by omega
  show L2.atI (r.map PyData.int) (k : Int) = _
  rw [atI_nat, List.getElem?_map, List.getElem?_eq_getElem hk, Int.toNat_natCast, List.getD_eq_getElem?_getD, List.getElem?_eq_getElem hk]
  rfl
theorem Tk.at {c : Nat} {t : Tb} (h : Tk c t) {p : Nat} (hp : p < t.length) : (t.getD p []).length = c := by
  rw [List.getD_eq_getElem?_getD, List.getElem?_eq_getElem hp]
  exact h.row _ (List.getElem_mem hp)
theorem sum_filter (t : Tb) (k : Int × Bool) (ps : List Nat) : ((valsOf t k.1 k.2 ps).flatMap fun v => ps.flatMap fun p => if vl t k.1 p = v then [PyData.int (p : Int)] else []) = plsP (keyStep t k ps) := by
  unfold keyStep plsP
  rw [List.map_flatMap]
  congr 1
  funext v
  induction ps with
  | nil => rfl
  | cons p ps ih =>
    rw [List.flatMap_cons, ih, List.filter_cons]
    by_cases h : vl t k.1 p = v <;> simp [h]
theorem plsP_len (ps : List Nat) : (plsP ps).length = ps.length := List.length_map ..
section
variable {T : Tab} {L : Nat → Bool}
structure PlI (t : Tb) (c : Nat) (R : List Nat) (x0 x1 x2 : P) (s : Store) (xs : List P) (σ : Env) (st : Store) : Prop where
  ex : ∃ (ks : Ky) (ps : List Nat) (a b d e f : Option D), xs = (ks.map keyP).reverse ∧ ks.foldr (keyStep t) ps = R ∧ ps.Nodup ∧ (∀ p, p ∈ ps → p < t.length) ∧ (∀ k, k ∈ ks → 0 ≤ k.1 ∧ k.1 < c) ∧ st = s ∧
    σ = [some (.p x0), some (.p x1), some (.p x2), some (.p (.list (plsP ps))), a, b, d, e, f]
theorem nodup_small {ps : List Nat} {n : Nat} (nd : ps.Nodup) (h : ∀ p, p ∈ ps → p < n) : ps.length ≤ n := by
  have := nodup_le (as := ps.map fun p : Nat => (p : Int)) (bs := (List.range n).map fun p : Nat => (p : Int)) (List.pairwise_map.mpr (nd.imp fun {a b} h e => h (by omega))) fun k hk => by
    obtain ⟨p, hp, rfl⟩ := List.mem_map.mp hk
    exact List.mem_map.mpr ⟨p, List.mem_range.mpr (h p hp), rfl⟩
  simpa using this
theorem places_run (h914 : T 914 = some o914) (n : Nat) {t : Tb} {c : Nat} (ht : Tk c t) {ps : List Nat} (nd : ps.Nodup) (hp : ∀ p, p ∈ ps → p < t.length) {ks : Ky} {u : Bool} (hk : ∀ k, k ∈ ks → 0 ≤ k.1 ∧ k.1 < c) {y : P} (hy : y = .list (plsP ps) ∨ y = .tuple (plsP ps)) (s : Store) :
    callF T L (n + 1) 914 [.p (tabP t), .p y, .p (ordP ks u)] s = .ok (.p (.tuple (plsP (placesM t ps (ks, u))))) s := by
  suffices g : (callF T L (n + 1) 914 [.p (tabP t), .p y, .p (ordP ks u)] s).sat fun d s' => d = .p (.tuple (plsP (placesM t ps (ks, u)))) ∧ s' = s by
    obtain ⟨d, s', e, rfl, rfl⟩ := sat_ex g
    exact e
  rw [callF_app h914 _ _ rfl]
  have srt : bltP .sorted [y] = some (.list (plsP (sortN ps))) := by
    have e : plsP ps = (ps.map fun p : Nat => (p : Int)).map PyData.int := by unfold plsP; rw [List.map_map]; rfl
    have e2 : (sortI (ps.map fun p : Nat => (p : Int))).map PyData.int = plsP (sortN ps) := by
      unfold plsP sortN
      rw [List.map_map]
      apply List.map_congr_left
      intro x hx
      obtain ⟨q, _, rfl⟩ := List.mem_map.mp (sortI_mem.mp hx)
      rfl
    rcases hy with rfl | rfl
    · rw [e, sorted_li, e2]
    · rw [e, sorted_ti, e2]
  have it : revP (ordP ks u) = some (.tuple (plP u :: (ks.map keyP).reverse)) := by
    show some (PyData.tuple (ks.map keyP ++ [plP u]).reverse) = _
    rw [List.reverse_append]
    rfl
  have ln : ps.length ≤ 30 := Nat.le_trans (nodup_small nd hp) ht.le
  have sl : (sortN ps).length = ps.length := by unfold sortN; rw [List.length_map, (sortI_perm _).length_eq, List.length_map]
  have main : (forGo (turnS (callF T L n) s.length (.tup (.cons (.name 4) (.cons (.name 5) .nil))) (.cons (.ife (.cmp .eq (.var 4) (.lit (.str "place"))) (.cons (.asg (.name 3) (.ite (.cmp .eq (.var 5) (.lit (.str "down"))) (.rev (.var 3)) (.var 3))) .nil) (.cons (.asg (.name 6) (.blt .sorted (.cons (.setc (.idx (.idx (.var 0) (.var 8)) (.var 4)) (.name 8) (.e (.var 3)) .none) .nil))) (.cons (.ife (.cmp .eq (.var 5) (.lit (.str "down"))) (.cons (.asg (.name 6) (.rev (.var 6))) .nil) .nil) (.cons (.asg (.name 3) (.comp2 (.var 8) (.name 7) (.e (.var 6)) .none (.name 8) (.e (.var 3)) (.some (.cmp .eq (.idx (.idx (.var 0) (.var 8)) (.var 4)) (.var 7))))) .nil)))) .nil)) ((ks.map keyP).reverse) [some (.p (tabP t)), some (.p y), some (.p (ordP ks u)), some (.p (.list (plsP (upL u (sortN ps))))), some (.p (.str "place")), some (.p (dirP u)), none, none, none] s).sat (PlI t c (placesM t ps (ks, u)) (tabP t) y (ordP ks u) s []) (fun _ _ => False) := by
    refine for_sat (PlI t c (placesM t ps (ks, u)) (tabP t) y (ordP ks u) s) ⟨ks, _, _, _, _, _, _, rfl, rfl, ?_, fun p h => hp p (sortN_mem.mp (upL_mem.mp h)), hk, rfl, rfl⟩ ?_
    · have : (sortN ps).Nodup := (sortN_pair nd).imp fun {a b} h => Nat.ne_of_lt h
      cases u
      · show (sortN ps).reverse.Nodup
        exact List.pairwise_reverse.mpr (this.imp fun {a b} h => h.symm)
      · exact this
    · rintro x r σ st ⟨ks', qs, a, b, d, e, f, hx, hf, qn, ql, hk', rfl, rfl⟩
      rcases List.eq_nil_or_concat ks' with rfl | ⟨ks2, k, rfl⟩
      · simp at hx
      · rw [List.concat_eq_append] at *
        rw [List.map_append, List.reverse_append] at hx
        simp only [List.map_cons, List.map_nil, List.reverse_cons, List.reverse_nil, List.nil_append, List.singleton_append, List.cons.injEq] at hx
        obtain ⟨rfl, rfl⟩ := hx
        rw [List.foldr_append] at hf
        simp only [List.foldr_cons, List.foldr_nil] at hf
        have kk := hk' k (by simp)
        have ql2 : qs.length ≤ 30 := Nat.le_trans (nodup_small qn ql) ht.le
        have cell : ∀ p, p ∈ qs → idxP (rowP (t.getD p [])) (.int k.1) = some (.int (vl t k.1 p)) := fun p hp' => row_idx kk.1 (by rw [ht.at (ql p hp')]; exact kk.2)
        have sc := fun (v w z : Option D) => comp_mapE (f := turnE (callF T L n) st.length [some (.p (tabP t)), some (.p y), some (.p (ordP ks u)), some (.p (.list (plsP qs))), some (.p (.int k.1)), some (.p (dirP k.2)), v, w, z] (.idx (.idx (.var 0) (.var 8)) (.var 4)) (.name 8) .none) (fun p : Nat => PyData.int (p : Int)) (fun p => PyData.int (vl t k.1 p)) (s := st) (cs := qs) (fun p hp' => by
          have e1 := tab_idx (ql p hp')
          have e2 := cell p hp'
          generalize tabP t = X at *
          generalize rowP (t.getD p []) = Y at *
          simp [turnE_app, e1, e2]) (by omega)
        have sg : setG (qs.map fun p => PyData.int (vl t k.1 p)) st = .ok (.iset (onceI (qs.map (vl t k.1)))) st := by
          have := setG_i (ns := qs.map (vl t k.1)) (by rw [List.length_map]; omega) st
          rw [List.map_map] at this
          exact this
        have ol : (onceI (qs.map (vl t k.1))).length ≤ 30 := Nat.le_trans (nodup_le (once_nodup _) fun v hv => (once_mem _ v).mp hv) (by rw [List.length_map]; omega)
        have so := sorted_set_s (ns := onceI (qs.map (vl t k.1))) (by omega) st
        have cc := fun (w z : Option D) => comp_bindE (f := turn2E (callF T L n) st.length [some (.p (tabP t)), some (.p y), some (.p (ordP ks u)), some (.p (.list (plsP qs))), some (.p (.int k.1)), some (.p (dirP k.2)), some (.p (.list ((valsOf t k.1 k.2 qs).map PyData.int))), w, z] (.var 8) (.name 7) .none (.name 8) (.e (.var 3)) (.some (.cmp .eq (.idx (.idx (.var 0) (.var 8)) (.var 4)) (.var 7)))) PyData.int (fun v => qs.flatMap fun p => if vl t k.1 p = v then [PyData.int (p : Int)] else []) (s := st) (cs := valsOf t k.1 k.2 qs) (acc := []) (fun v hv => by
          have inner := fun (z : Option D) => comp_bindE (f := turnE (callF T L n) st.length [some (.p (tabP t)), some (.p y), some (.p (ordP ks u)), some (.p (.list (plsP qs))), some (.p (.int k.1)), some (.p (dirP k.2)), some (.p (.list ((valsOf t k.1 k.2 qs).map PyData.int))), some (.p (.int v)), z] (.var 8) (.name 8) (.some (.cmp .eq (.idx (.idx (.var 0) (.var 8)) (.var 4)) (.var 7)))) (fun p : Nat => PyData.int (p : Int)) (fun p => if vl t k.1 p = v then [PyData.int (p : Int)] else []) (s := st) (cs := qs) (acc := []) (fun p hp' => by
            have e1 := tab_idx (ql p hp')
            have e2 := cell p hp'
            have e3 := eq_ints (vl t k.1 p) v
            generalize tabP t = X at *
            generalize rowP (t.getD p []) = Y at *
            generalize (valsOf t k.1 k.2 qs).map PyData.int = V at *
            by_cases h : vl t k.1 p = v
            · rw [decide_eq_true h] at e3
              simp [turnE_app, e1, e2, e3, h]
            · rw [decide_eq_false h] at e3
              simp [turnE_app, e1, e2, e3, h]) (by
              have : ∀ l : List Nat, (l.flatMap fun p => if vl t k.1 p = v then [PyData.int (p : Int)] else []).length ≤ l.length := by
                intro l
                induction l with
                | nil => exact Nat.le_refl _
                | cons p l ih =>
                  rw [List.flatMap_cons, List.length_append, List.length_cons]
                  have : (if vl t k.1 p = v then [PyData.int (p : Int)] else []).length ≤ 1 := by split <;> simp
                  omega
              have := this qs
              simp only [List.length_nil]
              omega)
          simp only [List.nil_append] at inner
          have ip : items (.list (plsP qs)) = some (qs.map fun p : Nat => PyData.int (p : Int)) := rfl
          generalize (valsOf t k.1 k.2 qs).map PyData.int = V at *
          generalize plsP qs = Q at *
          generalize tabP t = X at *
          simp [turn2E_app, ip, inner]) (by
            rw [sum_filter, plsP_len, step_len qn]
            simp only [List.length_nil]
            omega)
        rw [sum_filter] at cc
        simp only [List.nil_append] at cc
        have fin : ∀ (a b d e f : Option D), PlI t c (placesM t ps (ks, u)) (tabP t) y (ordP ks u) st ((ks2.map keyP).reverse) [some (.p (tabP t)), some (.p y), some (.p (ordP ks u)), some (.p (.list (plsP (keyStep t k qs)))), a, b, d, e, f] st := fun a b d e f =>
          ⟨ks2, keyStep t k qs, a, b, d, e, f, rfl, hf, step_nodup qn, fun p h => ql p (step_mem.mp h), fun q hq => hk' q (List.mem_append_left _ hq), rfl, rfl⟩
        have kp : keyP k = .tuple [.int k.1, dirP k.2] := rfl
        have ep : eqP (.int k.1) (.str "place") = some false := by
          rw [eqP_g (gd_int _) (gd_str _ (str_lit "place")) (by decide : (0 : Nat) ≤ 64)]
          simp only [PyData.eqv]
        have ed := eq_dir k.2 false
        have vd : valsOf t k.1 k.2 qs = upL k.2 (sortI (onceI (qs.map (vl t k.1)))) := rfl
        have dd : dirP false = .str "down" := rfl
        rw [dd] at ed
        have ip : items (.list (plsP qs)) = some (qs.map fun p : Nat => PyData.int (p : Int)) := rfl
        cases hd : k.2 with
        | true =>
          rw [hd] at vd ed kp cc sc
          rw [vd] at cc
          simp only [upL, if_true] at cc
          simp only [decide_false, Bool.true_eq_false] at ed
          generalize sortI (onceI (qs.map (vl t k.1))) = V at *
          generalize plsP (keyStep t k qs) = W at *
          generalize plsP qs = Q at *
          generalize tabP t = X at *
          generalize ordP ks u = O at *
          generalize dirP true = dt at *
          simp [turnS_app, kp, ep, ed, ip, sc, kSetc_app, sg, so, cc]
          exact fin _ _ _ _ _
        | false =>
          rw [hd] at vd ed kp cc sc
          rw [vd] at cc
          simp only [upL, Bool.false_eq_true, if_false, List.map_reverse] at cc
          simp only [decide_true] at ed
          generalize sortI (onceI (qs.map (vl t k.1))) = V at *
          generalize plsP (keyStep t k qs) = W at *
          generalize plsP qs = Q at *
          generalize tabP t = X at *
          generalize ordP ks u = O at *
          generalize dirP false = dt at *
          have rv : revP (.list (V.map PyData.int)) = some (.list (V.map PyData.int).reverse) := rfl
          simp [turnS_app, kp, ep, ed, ip, sc, kSetc_app, sg, so, rv, cc]
          exact fin _ _ _ _ _
  have pl : plP u = .tuple [.str "place", dirP u] := rfl
  have ed := eq_dir u false
  have dd : dirP false = .str "down" := rfl
  rw [dd] at ed
  have rv : revP (.list (plsP (sortN ps))) = some (.list (plsP (sortN ps).reverse)) := by
    show some (PyData.list (plsP (sortN ps)).reverse) = _
    unfold plsP
    rw [List.map_reverse]
  generalize hU : placesM t ps (ks, u) = R at *
  cases u with
  | true =>
    simp only [decide_false, Bool.true_eq_false] at ed
    simp only [upL, if_true] at main
    generalize hO : ordP ks true = O at *
    generalize dirP true = dt at *
    simp [o914, srt, it, forGo_step, turnS_app, pl, eq_place, ed]
    try simp only [sat_fin, sat_nxt, sat_st, sat_and]
    refine main.imp ?_ fun _ _ h => h.elim
    rintro σ st ⟨ks', qs, a, b, d, e, f, hx, hf, qn, ql, hk', rfl, rfl⟩
    have : ks' = [] := by cases ks' with | nil => rfl | cons _ _ => simp at hx
    subst this
    simp only [List.foldr_nil] at hf
    simp [hf]
  | false =>
    simp only [decide_true] at ed
    simp only [upL, Bool.false_eq_true, if_false] at main
    generalize hO : ordP ks false = O at *
    generalize dirP false = dt at *
    simp [o914, srt, it, forGo_step, turnS_app, pl, eq_place, ed, rv]
    try simp only [sat_fin, sat_nxt, sat_st, sat_and]
    refine main.imp ?_ fun _ _ h => h.elim
    rintro σ st ⟨ks', qs, a, b, d, e, f, hx, hf, qn, ql, hk', rfl, rfl⟩
    have : ks' = [] := by cases ks' with | nil => rfl | cons _ _ => simp at hx
    subst this
    simp only [List.foldr_nil] at hf
    simp [hf]
end
end Ev


end
section
namespace Ev
open PySem PySem.Spec PyProof.Rows L2 Own
def rowsAt (t : Tb) (ps : List Nat) : Tb := ps.map fun p => t.getD p []
def placesOf (t : Tb) (o : Ky × Bool) : List Nat := placesM t (List.range t.length) o
theorem range_nodup (n : Nat) : (List.range n).Nodup := List.nodup_range
theorem placesOf_lt {t : Tb} {o : Ky × Bool} {p : Nat} (h : p ∈ placesOf t o) : p < t.length := List.mem_range.mp ((places_mem (ks := o.1) (u := o.2)).mp h)
theorem placesOf_len (t : Tb) (o : Ky × Bool) : (placesOf t o).length = t.length := by unfold placesOf; rw [places_len (range_nodup _), List.length_range]
theorem tab_is {c : Nat} {t : Tb} (h : Tk c t) : isTab (tabP t) := by
  have ne := h.ne
  obtain ⟨r, rs, rfl⟩ : ∃ r rs, t = r :: rs := by
    cases t with
    | nil => simp at ne
    | cons r rs => exact ⟨r, rs, rfl⟩
  have le := h.le
  have c1 := h.c1
  have c5 := h.c5
  refine ⟨by simpa using (by simp at le; omega), fun q hq => ?_⟩
  have hq' : q ∈ (r :: rs).map rowP := hq
  obtain ⟨w, hw, rfl⟩ := List.mem_map.mp hq'
  have l1 := h.row w hw
  have l2 := h.row r List.mem_cons_self
  refine ⟨?_, ?_⟩
  · show (decide (1 ≤ (w.map PyData.int).length) && decide ((w.map PyData.int).length ≤ 5) && (w.map PyData.int).all isV) = true
    rw [List.length_map, decide_eq_true (by omega), decide_eq_true (by omega)]
    simp [isV]
  · show (w.map PyData.int).length = (r.map PyData.int).length
    rw [List.length_map, List.length_map, l1, l2]
theorem cut_last {α : Type} (xs : List α) (x : α) : cutL (xs ++ [x]) none (some (-1)) = xs := by
  unfold cutL
  rw [HT.sIx_none]
  have : HT.sIx (xs ++ [x]).length (xs ++ [x]).length (some (-1)) = xs.length := by
    unfold HT.sIx
    simp
    omega
  rw [this]
  simp
section
variable {T : Tab} {L : Nat → Bool}
structure HBy (T : Tab) : Prop where
  tb : HTab T
  od : HOrd T
  t28 : T 28 = some o28
  t33 : T 33 = some o33
  t34 : T 34 = some o34
  t35 : T 35 = some o35
  t914 : T 914 = some o914
  t915 : T 915 = some o915
theorem order_columns (h33 : T 33 = some o33) (n : Nat) {ks : Ky} {u : Bool} (hl : ks.length ≤ 1000) (s : Store) : callF T L (n + 1) 33 [.p (ordP ks u)] s = .ok (.p (.tuple ((sortI (ks.map (·.1))).map PyData.int))) s := by
  rw [callF_app h33 _ _ rfl]
  have sl : slcP (ordP ks u) none (some (-1)) = some (.tuple (ks.map keyP)) := by
    show some (PyData.tuple (cutL (ks.map keyP ++ [plP u]) none (some (-1)))) = _
    rw [cut_last]
  have cm := fun (v w : Option D) => comp_mapE (f := turnE (callF T L n) s.length [some (.p (ordP ks u)), v, w] (.var 1) (.tup (.cons (.name 1) (.cons (.name 2) .nil))) .none) keyP (fun k => PyData.int k.1) (s := s) (cs := ks) (fun k _ => by
    have kp : keyP k = .tuple [.int k.1, dirP k.2] := rfl
    generalize ordP ks u = O at *
    generalize dirP k.2 = dd at *
    simp [turnE_app, kp]) (by omega)
  have sl2 : bltP .sorted [.list (ks.map fun k => PyData.int k.1)] = some (.list ((sortI (ks.map (·.1))).map PyData.int)) := by
    have := sorted_li (ks.map (·.1))
    rw [List.map_map] at this
    exact this
  generalize (sortI (ks.map (·.1))).map PyData.int = R at *
  generalize (ks.map fun k => PyData.int k.1) = I at *
  generalize hO : ordP ks u = O at *
  simp [o33, sl, cm, sl2]
theorem check_below (h34 : T 34 = some o34) (n : Nat) {k : Int} {ws : List Int} (h : ∀ w, w ∈ ws → w < k) (s : Store) : callF T L (n + 1) 34 [.p (.int k), .p (.tuple (ws.map PyData.int))] s = .ok (.p .none) s := by
  suffices g : (callF T L (n + 1) 34 [.p (.int k), .p (.tuple (ws.map PyData.int))] s).sat fun d s' => d = .p .none ∧ s' = s by
    obtain ⟨d, s', e, rfl, rfl⟩ := sat_ex g
    exact e
  rw [callF_app h34 _ _ rfl]
  simp [o34]
  try simp only [sat_fin, sat_nxt, sat_st, sat_and]
  refine (for_sat (fun xs σ st => ∃ (vs : List Int) (a : Option D), xs = vs.map PyData.int ∧ (∀ w, w ∈ vs → w < k) ∧ st = s ∧ σ = [some (.p (.int k)), some (.p (.tuple (ws.map PyData.int))), a]) ⟨ws, none, rfl, h, rfl, rfl⟩ ?_).imp ?_ fun _ _ h => h
  · rintro x r σ st ⟨vs, a, hx, hv, rfl, rfl⟩
    cases vs with
    | nil => simp at hx
    | cons v vs =>
      simp only [List.map_cons, List.cons.injEq] at hx
      obtain ⟨rfl, rfl⟩ := hx
      have h1 := hv v List.mem_cons_self
      have h2 : ¬ k ≤ v := by omega
      generalize ws.map PyData.int = W at *
      simp [turnS_app, h2]
      exact ⟨vs, rfl, fun w hw => hv w (List.mem_cons_of_mem _ hw)⟩
  · rintro σ st ⟨vs, a, hx, hv, rfl, rfl⟩
    simp
theorem tab_cons {c : Nat} {t : Tb} (h : Tk c t) : ∃ a xs, tabP t = .tuple (.tuple a :: xs) ∧ a.length = c := by
  have ne := h.ne
  cases t with
  | nil => simp at ne
  | cons r rs => exact ⟨r.map PyData.int, rs.map rowP, rfl, by rw [List.length_map]; exact h.row r List.mem_cons_self⟩
theorem check_has (H : HTab T) (h34 : T 34 = some o34) (h35 : T 35 = some o35) (n : Nat) {c : Nat} {t : Tb} (ht : Tk c t) {ws : List Int} (h : ∀ w, w ∈ ws → w < c) (s : Store) : callF T L (n + 2) 35 [.p (tabP t), .p (.tuple (ws.map PyData.int))] s = .ok (.p .none) s := by
  rw [callF_app h35 _ _ rfl]
  obtain ⟨a, xs, e, l⟩ := tab_cons ht
  have ci := columns_in (L := L) H n a xs
  have cb := check_below (L := L) h34 n (k := (a.length : Int)) (ws := ws) (by rw [l]; exact h)
  rw [e]
  generalize ws.map PyData.int = W at *
  simp [o35, ci, cb]
theorem len_tab (t : Tb) : bltP .len [tabP t] = some (.int (t.length : Int)) := by
  have e : ∀ xs : List P, bltP .len [.tuple xs] = some (.int (xs.length : Int)) := fun _ => rfl
  unfold tabP
  rw [e, List.length_map]
theorem rng_pls (m : Nat) : rngI 0 m = plsP (List.range m) := by
  unfold rngI plsP
  apply List.map_congr_left
  intro x _
  simp
theorem small_rng {m : Nat} (h : m ≤ 30) : rngOk (m : Int) = true := by
  have : ∀ k : Nat, k ≤ 30 → rngOk (k : Int) = true := by decide
  exact this m h
theorem lst_range {cf : CF} {b : Nat} {σ : Env} {s : Store} {e : E} {m : Nat} (hm : m ≤ 30) (he : evE cf b e σ s = .ok (.p (.int (m : Int))) s) : evE cf b (.lstI (.rng1 e)) σ s = .ok (.p (.list (plsP (List.range m)))) s := by
  have rk := small_rng hm
  obtain ⟨k, hk⟩ : ∃ k : Int, k = (m : Int) := ⟨_, rfl⟩
  rw [← hk] at he rk
  have kt : rngI 0 k.toNat = plsP (List.range m) := by rw [hk, Int.toNat_natCast]; exact rng_pls m
  have l2 : (plsP (List.range m)).length ≤ 16777216 := by rw [plsP_len, List.length_range]; omega
  clear hk hm
  generalize plsP (List.range m) = Q at *
  simp [he, rk, kt, l2]
theorem places_by (H : HBy T) (n : Nat) {c : Nat} {t : Tb} (ht : Tk c t) {ks : Ky} {u : Bool} (hk : KeysOk 4 ks) (hc : ∀ k, k ∈ ks → k.1 < c) (hl : ks.length ≤ 4) (s : Store) :
    callF T L (n + 6) 915 [.p (tabP t), .p (ordP ks u)] s = .ok (.p (.tuple (plsP (placesOf t (ks, u))))) s := by
  rw [callF_app H.t915 _ _ rfl]
  have c1 := check_table (L := L) H.tb (n + 1) (tab_is ht)
  have c2 := check_order (L := L) H.od H.t28 n (u := u) hk hl
  have c3 := order_columns (L := L) H.t33 (n + 4) (ks := ks) (u := u) (by omega)
  have c4 : ∀ s, callF T L (n + 5) 35 [.p (tabP t), .p (.tuple ((sortI (ks.map (·.1))).map PyData.int))] s = .ok (.p .none) s := fun s => check_has (L := L) H.tb H.t34 H.t35 (n + 3) ht (ws := sortI (ks.map (·.1))) (fun w hw => by
    obtain ⟨k, hk', rfl⟩ := List.mem_map.mp (sortI_mem.mp hw)
    exact hc k hk') s
  have c5 := places_run (L := L) H.t914 (n + 4) ht (range_nodup t.length) (fun p hp => List.mem_range.mp hp) (ks := ks) (u := u) (fun k hk' => ⟨(hk.rng k hk').1, hc k hk'⟩) (.inl rfl)
  have lr := fun (s : Store) => lst_range (cf := callF T L (n + 5)) (b := s.length) (σ := [some (.p (tabP t)), some (.p (ordP ks u))]) (s := s) (e := .blt .len (.cons (.var 0) .nil)) ht.le (by
    have ln := len_tab t
    generalize tabP t = X at *
    generalize ordP ks u = O at *
    generalize ((t.length : Nat) : Int) = m at *
    simp [ln])
  unfold placesOf
  generalize (sortI (ks.map (·.1))).map PyData.int = W at *
  generalize plsP (placesM t (List.range t.length) (ks, u)) = R at *
  generalize plsP (List.range t.length) = Q at *
  generalize tabP t = X at *
  generalize ordP ks u = O at *
  generalize hE : E.lstI (.rng1 (.blt .len (.cons (.var 0) .nil))) = e9 at *
  simp -implicitDefEqProofs [o915, hE, c1, c2, c3, c4, c5, lr]
theorem sorted_by (H : HBy T) (h916 : T 916 = some o916) (n : Nat) {c : Nat} {t : Tb} (ht : Tk c t) {ks : Ky} {u : Bool} (hk : KeysOk 4 ks) (hc : ∀ k, k ∈ ks → k.1 < c) (hl : ks.length ≤ 4) (s : Store) :
    callF T L (n + 7) 916 [.p (tabP t), .p (ordP ks u)] s = .ok (.p (tabP (rowsAt t (placesOf t (ks, u))))) s := by
  rw [callF_app h916 _ _ rfl]
  have p := places_by (L := L) H n ht (u := u) hk hc hl
  have pl := placesOf_len t (ks, u)
  have le := ht.le
  have cm := fun (v : Option D) => comp_mapE (f := turnE (callF T L (n + 6)) s.length [some (.p (tabP t)), some (.p (ordP ks u)), v] (.idx (.var 0) (.var 2)) (.name 2) .none) (fun p : Nat => PyData.int (p : Int)) (fun p => rowP (t.getD p [])) (s := s) (cs := placesOf t (ks, u)) (fun p hp => by
    have e := tab_idx (placesOf_lt hp)
    generalize tabP t = X at *
    generalize ordP ks u = O at *
    simp [turnE_app, e]) (by omega)
  have e : tabP (rowsAt t (placesOf t (ks, u))) = .tuple ((placesOf t (ks, u)).map fun p => rowP (t.getD p [])) := by
    unfold tabP rowsAt
    rw [List.map_map]
    rfl
  rw [e]
  have it : items (.tuple (plsP (placesOf t (ks, u)))) = some ((placesOf t (ks, u)).map fun p : Nat => PyData.int (p : Int)) := rfl
  generalize ((placesOf t (ks, u)).map fun p => rowP (t.getD p [])) = R at *
  generalize tabP t = X at *
  generalize ordP ks u = O at *
  generalize plsP (placesOf t (ks, u)) = Q at *
  simp [o916, p, it, cm]
end
end Ev


end
section
namespace Own
open Ev
/-- _law_turned -/
def o98 : FD := ⟨1, 3, (.cons (.ret (.blt .tuple (.cons (.comp (.tup (.cons (.var 1) (.cons (.idx (.lst (.cons (.lit (.str "up")) (.cons (.lit (.str "down")) .nil))) (.blt .int (.cons (.cmp .eq (.var 2) (.lit (.str "up"))) .nil))) .nil))) (.tup (.cons (.name 1) (.cons (.name 2) .nil))) (.e (.var 0)) .none) .nil))) .nil)⟩
/-- _law_picked -/
def o159 : FD := ⟨2, 5, (.cons (.asgL 2 (.lst .nil)) (.cons (.for (.name 3) (.e (.var 0)) (.cons (.ife (.cmp .isin (.idx (.var 3) (.lit (.int 0))) (.tup (.cons (.lit (.str "up")) (.cons (.lit (.str "down")) .nil)))) (.cons (.asg (.name 1) (.bin .add (.tup (.cons (.tup (.cons (.idx (.var 3) (.lit (.int 1))) (.cons (.idx (.var 3) (.lit (.int 0))) .nil))) .nil)) (.blt .tuple (.cons (.comp (.var 4) (.name 4) (.e (.var 1)) (.some (.cmp .ne (.idx (.var 4) (.lit (.int 0))) (.idx (.var 3) (.lit (.int 1)))))) .nil)))) .nil) .nil) (.cons (.ife (.cmp .eq (.idx (.var 3) (.lit (.int 0))) (.lit (.str "reverse"))) (.cons (.asg (.name 1) (.call 98 (.cons (.var 1) .nil))) .nil) .nil) (.cons (.ife (.cmp .eq (.idx (.var 3) (.lit (.int 0))) (.lit (.str "restore"))) (.cons (.asg (.name 1) (.tup (.cons (.tup (.cons (.lit (.str "place")) (.cons (.lit (.str "up")) .nil))) .nil))) .nil) .nil) (.cons (.ife (.cmp .eq (.idx (.var 3) (.lit (.int 0))) (.lit (.str "first"))) (.cons (.expr (.mth .append (.var 2) (.cons (.tup (.cons (.var 1) (.cons (.idx (.var 3) (.lit (.int 1))) .nil))) .nil))) .nil) .nil) (.cons (.ife (.cmp .eq (.idx (.var 3) (.lit (.int 0))) (.lit (.str "last"))) (.cons (.expr (.mth .append (.var 2) (.cons (.tup (.cons (.call 98 (.cons (.var 1) .nil)) (.cons (.idx (.var 3) (.lit (.int 1))) .nil))) .nil))) .nil) .nil) .nil)))))) (.cons (.ret (.lst (.cons (.var 2) (.cons (.var 1) .nil)))) .nil)))⟩
/-- _law_short -/
def o769 : FD := ⟨1, 6, (.cons (.asgL 1 (.lst .nil)) (.cons (.for (.tup (.cons (.name 2) (.cons (.name 3) .nil))) (.e (.var 0)) (.cons (.ife (.blt .all (.cons (.compV (.cmp .lt (.var 3) (.idx (.var 5) (.lit (.int 1)))) (.name 5) 1 .none) .nil)) (.cons (.expr (.mth .append (.var 1) (.cons (.tup (.cons (.var 2) (.cons (.var 3) .nil))) .nil))) .nil) .nil) .nil)) (.cons (.ret (.blt .tuple (.cons (.comp (.idx (.var 1) (.var 4)) (.name 4) (.rng1 (.blt .len (.cons (.var 1) .nil))) (.some (.or (.cmp .eq (.bin .add (.var 4) (.lit (.int 1))) (.blt .len (.cons (.var 1) .nil))) (.cmp .ne (.idx (.idx (.var 1) (.var 4)) (.lit (.int 0))) (.idx (.idx (.var 1) (.bin .add (.var 4) (.lit (.int 1)))) (.lit (.int 0))))))) .nil))) .nil)))⟩
/-- _law_form -/
def o770 : FD := ⟨1, 3, (.cons (.asg (.tup (.cons (.name 1) (.cons (.name 2) .nil))) (.call 159 (.cons (.var 0) (.cons (.tup (.cons (.tup (.cons (.lit (.str "place")) (.cons (.lit (.str "up")) .nil))) .nil)) .nil)))) (.cons (.ret (.tup (.cons (.call 769 (.cons (.var 1) .nil)) (.cons (.var 2) .nil)))) .nil))⟩
end Own
namespace Ev
open PySem PySem.Spec PyProof.Rows L2 Own
/-! ### data with short leaves -/
def Lf (d : P) : Prop := d.leavesShort 40 = true
theorem lf_all : ∀ {xs : List P}, (∀ x, x ∈ xs → Lf x) → PyData.leavesShortAll 40 xs = true
  | [], _ => by simp only [PyData.leavesShortAll]
  | x :: xs, h => by
    simp only [PyData.leavesShortAll, Bool.and_eq_true]
    exact ⟨h x List.mem_cons_self, lf_all fun y hy => h y (List.mem_cons_of_mem x hy)⟩
theorem lf_tup {xs : List P} (h : ∀ x, x ∈ xs → Lf x) : Lf (.tuple xs) := by
  unfold Lf
  simp only [PyData.leavesShort]
  exact lf_all h
theorem lf_list {xs : List P} (h : ∀ x, x ∈ xs → Lf x) : Lf (.list xs) := by
  unfold Lf
  simp only [PyData.leavesShort]
  exact lf_all h
theorem lf_int {i : Int} (h : i.natAbs < 10 ^ 39) : Lf (.int i) := by
  unfold Lf
  simp only [PyData.leavesShort, decide_eq_true_eq]
  show (PySem.Str.ofString (toString i)).length ≤ 40
  rw [PySem.ofString_length]
  exact PySem.int_text_length_le10 (k := 39) (by decide) h
theorem lf_str {x : Str} (h : PyData.strOk x = true) : Lf (.str x) := by
  have := short_of (.str x) (by simp only [PyData.canLay0]; exact h) (by simp only [PyData.showable])
  unfold Lf
  simp only [PyData.leavesShort] at this ⊢
  exact this
theorem lf_bool (b : Bool) : Lf (.bool b) := by unfold Lf; simp only [PyData.leavesShort]
theorem repr_s {k w : Nat} {d : P} (h : Sh k w d) (l : Lf d) (hk : k ≤ 60) (hw : w ≤ 390000) : bltP .repr [d] = some (.str d.shown) := by
  have h1 := PyData.shown_le 40 (by decide) d l
  have h2 := h.wgt
  have h3 := h.dep
  have h4 : d.shown.length ≤ 16777216 := Nat.le_trans h1 (Nat.le_trans (Nat.add_le_add_right (Nat.mul_le_mul_left _ (Nat.le_trans h2 hw)) _) (by decide))
  show (if PyData.showable d && !PyData.hasDict d && decide (d.shown.length ≤ line) && decide (d.depth ≤ 60) then some (PyData.str d.shown) else none) = _
  rw [h.sho, PyData.hasDict_of_canLay d h.lay, decide_eq_true (show d.shown.length ≤ line from h4), decide_eq_true (Nat.le_trans h3 hk)]
  rfl
theorem gd_shown {k w : Nat} {d : P} (h : Sh k w d) : Gd 0 (.str d.shown) := gd_str d.shown (shown_str d h.lay)
/-! ### open lists that are walked -/
mutual
theorem same_refl : ∀ d : P, d.canLay0 = true → sameP d d = true
  | .none, _ => by simp only [sameP]
  | .bool _, _ => by simp only [sameP, decide_true]
  | .int _, _ => by simp only [sameP, decide_true]
  | .str _, _ => by simp only [sameP, decide_true]
  | .list xs, h => by simp only [PyData.canLay0] at h; simp only [sameP]; exact sames_refl xs h
  | .tuple xs, h => by simp only [PyData.canLay0] at h; simp only [sameP]; exact sames_refl xs h
  | .dict _, h => by simp only [PyData.canLay0] at h; cases h
theorem sames_refl : ∀ xs : List P, PyData.canLayAll0 xs = true → samePs xs xs = true
  | [], _ => by simp only [samePs]
  | x :: xs, h => by
    simp only [PyData.canLayAll0, Bool.and_eq_true] at h
    simp only [samePs, Bool.and_eq_true]
    exact ⟨same_refl x h.1, sames_refl xs h.2⟩
end
theorem chk_st {l : Nat} {ps : List P} {s : Store} (h : rd s l = some (.lst (ps.map D.p))) (hs : samePs ps ps = true) : chkL l ps s = .ok () s := by
  have h' : s[l]? = some (.lst (ps.map D.p)) := h
  unfold chkL
  rw [h']
  dsimp only
  rw [pures_map]
  dsimp only
  rw [if_pos hs]
theorem compV_ret {cf : CF} {b : Nat} {e : E} {t : Tg} {i : Nat} {c : Eo} {σ : Env} {s : Store} {l : Nat} {ps : List P} (g : P → List P) (h1 : σ[i]? = some (some (.loc l))) (h2 : rd s l = some (.lst (ps.map D.p))) (hd : ∀ x, x ∈ ps → x.canLay0 = true)
    (hx : ∀ x, x ∈ ps → turnE cf b σ e t c x s = .ok (g x) s) (hl : (ps.flatMap g).length < 16777216) : evE cf b (.compV e t i c) σ s = .ok (.p (.list (ps.flatMap g))) s := by
  have hs := sames_refl ps (lay_all hd)
  have lv : liveV σ i s = .ok (l, ps) s := by
    have h' : s[l]? = some (.lst (ps.map D.p)) := h2
    unfold liveV
    rw [h1]
    dsimp only
    rw [h']
    dsimp only
    rw [pures_map]
  have ck := chk_st h2 hs
  have cg : compGo (fun x => (chkL l ps).bnd fun _ => turnE cf b σ e t c x) ps [] s = .ok ([] ++ ps.flatMap g) s := comp_bind g (fun x hm => by
    show Res.and (chkL l ps s) (fun _ s => turnE cf b σ e t c x s) = _
    rw [ck, and_ok, hx x hm]) (by simpa using hl)
  have go : evE cf b (.compV e t i c) σ s = Res.and (liveV σ i s) fun lx s => Res.and (compGo (fun x => (chkL lx.1 lx.2).bnd fun _ => turnE cf b σ e t c x) lx.2 [] s) fun ys s => Res.and (chkL lx.1 lx.2 s) fun _ s => .ok (.p (.list ys)) s := by
    rw [show turnE cf b σ e t c = fun x => M.calm ((evTg cf b t (wipeE σ (slotsT t)) (.p x)).bnd fun σ' => (evC cf b c σ').bnd fun k => if k then (evE cf b e σ').bnd fun y => (take y).bnd fun q => M.ret [q] else M.ret []) from funext fun x => turnE_eq cf b σ e t c x]
    rfl
  rw [go, lv, and_ok, cg, and_ok, ck, and_ok]
  rfl
/-! ### the law's own normal form of plain programs -/
section
variable {T : Tab} {L : Nat → Bool}
structure HNfL (T : Tab) : Prop where
  t98 : T 98 = some o98
  t159 : T 159 = some o159
  t769 : T 769 = some o769
  t770 : T 770 = some o770
theorem lawTurned (h98 : T 98 = some o98) (n : Nat) {o : Od} (hl : o.1.length ≤ 1000) (s : Store) : callF T L (n + 1) 98 [.p (odP o)] s = .ok (.p (odP (turnO o))) s := by
  obtain ⟨ks, u⟩ := o
  have hl : ks.length ≤ 1000 := hl
  rw [callF_app h98 _ _ rfl]
  have hc := comp_map (f := turnE (callF T L n) s.length [some (.p (ordP ks u)), none, none] (.tup (.cons (.var 1) (.cons (.idx (.lst (.cons (.lit (.str "up")) (.cons (.lit (.str "down")) .nil))) (.blt .int (.cons (.cmp .eq (.var 2) (.lit (.str "up"))) .nil))) .nil))) (.tup (.cons (.name 1) (.cons (.name 2) .nil))) .none)
    (fun x => match x with
      | .tuple [a, .str d] => .tuple [a, if d = "up" then .str "down" else .str "up"]
      | x => x) (s := s) (xs := ks.map keyP ++ [plP u]) (acc := []) (fun x hx => by
      rcases List.mem_append.mp hx with h | h
      · obtain ⟨k, _, rfl⟩ := List.mem_map.mp h
        obtain ⟨k, b⟩ := k
        cases b <;> simp [turnE_app, keyP, dirP] <;> exact fun h => h.symm
      · rw [List.mem_singleton.mp h]
        cases u <;> simp [turnE_app, plP, dirP] <;> exact fun h => h.symm) (by
      simp; omega)
  have it : items (ordP ks u) = some (ks.map keyP ++ [plP u]) := rfl
  simp [o98, odP, it, hc]
  unfold turnO ordP
  rw [List.map_map]
  congr 1
  congr 1
  · apply List.map_congr_left
    rintro ⟨k, b⟩ _
    cases b <;> rfl
  · cases u <;> rfl
structure LpI (s : Store) (R : List Pk × Od) (x0 : P) (xs : List P) (σ : Env) (st : Store) : Prop where
  ex : ∃ (cs : List Sim) (ps : List Pk) (o : Od) (a b : Option D), xs = cs.map simP ∧ (∀ x, x ∈ cs → SimOk x) ∧ OdOk o ∧ ps ++ (pkB (cs.map Cmd.s) o).1 = R.1 ∧ (pkB (cs.map Cmd.s) o).2 = R.2 ∧ st = s ++ [.lst ((ps.map pickP).map D.p)] ∧
    σ = [some (.p x0), some (.p (odP o)), some (.loc s.length), a, b]
theorem lawPicked (H : HNfL T) (n : Nat) {xs : List Sim} {o : Od} (hc : ∀ x, x ∈ xs → SimOk x) (ok : OdOk o) (hN : xs.length ≤ 100000) (s : Store) :
    callF T L (n + 2) 159 [.p (.tuple (xs.map simP)), .p (odP o)] s = .ok (.p (.list [.list ((pkB (xs.map Cmd.s) o).1.map pickP), odP (pkB (xs.map Cmd.s) o).2])) s := by
  suffices g : (callF T L (n + 2) 159 [.p (.tuple (xs.map simP)), .p (odP o)] s).sat fun d s' => d = .p (.list [.list ((pkB (xs.map Cmd.s) o).1.map pickP), odP (pkB (xs.map Cmd.s) o).2]) ∧ s' = s by
    obtain ⟨d, s', e, rfl, rfl⟩ := sat_ex g
    exact e
  rw [callF_app H.t159 _ _ rfl]
  have RL : (pkB (xs.map Cmd.s) o).1.length ≤ 100000 := by
    rw [pkB_len]
    have : ∀ cs : List Sim, pkNs (cs.map Cmd.s) ≤ cs.length := by
      intro cs
      induction cs with
      | nil => simp [pkNs]
      | cons c cs ih =>
        have : simN c ≤ 1 := by cases c <;> simp [simN]
        simp only [List.map_cons, pkNs, pkN, List.length_cons]
        omega
    have := this xs
    omega
  simp [o159, -List.map_map]
  try simp only [sat_fin, sat_nxt, sat_st, sat_and]
  refine (for_sat (LpI s (pkB (xs.map Cmd.s) o) (.tuple (xs.map simP))) ⟨xs, [], o, none, none, rfl, hc, ok, rfl, rfl, rfl, rfl⟩ ?_).imp ?_ fun _ _ h => h
  · rintro x r σ st ⟨cs', ps, o', a, b, hx, hc', ok', h1, h2, rfl, rfl⟩
    cases cs' with
    | nil => simp at hx
    | cons cc cs2 =>
      simp only [List.map_cons, List.cons.injEq] at hx
      obtain ⟨rfl, rfl⟩ := hx
      have hk := hc' cc List.mem_cons_self
      simp only [List.map_cons, pkB, pkC] at h1 h2
      have len1 : ps.length + simN cc ≤ 100000 := by
        have := congrArg List.length h1
        rw [List.length_append, List.length_append, simPk_len] at this
        omega
      have done : ∀ (qs : List Pk) (o2 : Od) (a b : Option D), simPk o' cc = qs → afterO o' cc = o2 → LpI s (pkB (xs.map Cmd.s) o) (.tuple (xs.map simP)) (cs2.map simP) [some (.p (.tuple (xs.map simP))), some (.p (odP o2)), some (.loc s.length), a, b] (s ++ [.lst ((ps.map pickP).map D.p ++ (qs.map pickP).map D.p)]) := fun qs o2 a b hq ho => by
        have okk := ok'.after hk
        rw [ho] at h1 h2 okk
        rw [hq] at h1
        exact ⟨cs2, ps ++ qs, o2, a, b, rfl, fun x hx => hc' x (List.mem_cons_of_mem _ hx), okk, by rw [List.append_assoc]; exact h1, h2, by rw [List.map_append, List.map_append], rfl⟩
      have r1 := fun (ls : List D) => rd_app_r (s := s) (ls := [.lst ls]) (n := s.length) (k := 0) rfl
      have w1 := fun (ls : List D) (ob : Ob) => wr_app_r (s := s) (ls := [.lst ls]) (n := s.length) (k := 0) rfl ob
      have l4 := ok'.len
      have tn : ∀ st, callF T L (n + 1) 98 [.p (odP o')] st = .ok (.p (odP (turnO o'))) st := lawTurned (L := L) H.t98 n (by omega)
      generalize hP : ps.map pickP = pp at *
      have ppl : pp.length = ps.length := by rw [← hP, List.length_map]
      generalize xs.map simP = X at *
      cases cc with
      | srt u c =>
        have dn := fun a b => done [] (afterO o' (.srt u c)) a b rfl rfl
        obtain ⟨ks, v⟩ := o'
        have l4' : ks.length ≤ 4 := l4
        have it : items (odP (ks, v)) = some (ks.map keyP ++ [plP v]) := rfl
        have len : ((dropK c ks).map keyP ++ [plP v]).length ≤ 5 := by
          have : (dropK c ks).length ≤ ks.length := List.length_filter_le _ _
          simp only [List.length_append, List.length_map, List.length_singleton]
          omega
        have hc := fun (w : String) => comp_bind (f := turnE (callF T L (n + 1)) s.length [some (.p (.tuple X)), some (.p (odP (ks, v))), some (.loc s.length), some (.p (.tuple [.str (PySem.Str.ofString w), .int c])), b] (.var 4) (.name 4) (.some (.cmp .ne (.idx (.var 4) (.lit (.int 0))) (.idx (.var 3) (.lit (.int 1))))))
          (dropF c) (s := s ++ [.lst (pp.map D.p)]) (xs := ks.map keyP ++ [plP v]) (acc := []) (fun x hx => by
            rcases List.mem_append.mp hx with h | h
            · obtain ⟨k, _, rfl⟩ := List.mem_map.mp h
              by_cases e : k.1 = c <;> simp [turnE_app, keyP, eq_ints, e, dropF]
            · rw [List.mem_singleton.mp h]
              simp [turnE_app, plP, eq_place_int, dropF]) (by rw [drop_map]; simp only [List.length_nil]; omega)
        simp only [drop_map, List.nil_append] at hc
        have fin : ∀ w : Bool, PyData.tuple (PyData.tuple [.int c, dirP w] :: ((dropK c ks).map keyP ++ [plP v])) = odP (afterO (ks, v) (.srt w c)) := fun w => by
          simp only [odP, afterO, ordP, List.map_cons, List.cons_append, keyP]
        generalize (dropK c ks).map keyP ++ [plP v] = Y at *
        have xl : 1 + Y.length ≤ 16777216 := by omega
        generalize odP (ks, v) = oo at *
        cases u with
        | true =>
          have f := fin true
          simp only [dirP, if_true] at f
          rw [← f] at dn
          simp [turnS_app, simP, it, hc, xl]
          simpa using dn _ _
        | false =>
          have f := fin false
          simp only [dirP, Bool.false_eq_true, if_false] at f
          rw [← f] at dn
          simp [turnS_app, simP, it, hc, xl]
          simpa using dn _ _
      | rev =>
        have dn := fun a b => done [] (afterO o' .rev) a b rfl rfl
        simp only [afterO] at dn
        simp [turnS_app, simP, tn]
        simpa using dn _ _
      | res =>
        have dn := fun a b => done [] (afterO o' .res) a b rfl rfl
        have e0 : odP (afterO o' .res) = .tuple [.tuple [.str "place", .str "up"]] := rfl
        rw [e0] at dn
        simp [turnS_app, simP]
        simpa using dn _ _
      | cut ff c0 =>
        have g1 : pp.length < 16777216 := by omega
        cases ff with
        | true =>
          have dn := fun a b => done [(o', c0)] o' a b rfl rfl
          simp [turnS_app, simP, r1, w1, g1]
          simpa [pickP] using dn _ _
        | false =>
          have dn := fun a b => done [(turnO o', c0)] o' a b rfl rfl
          simp [turnS_app, simP, r1, w1, g1, tn]
          simpa [pickP] using dn _ _
  · rintro σ st ⟨cs', ps, o', a, b, hx, hc', ok', h1, h2, rfl, rfl⟩
    have : cs' = [] := by cases cs' with | nil => rfl | cons _ _ => simp at hx
    subst this
    simp only [List.map_nil, pkB, List.append_nil] at h1 h2
    have r1 := fun (ls : List D) => rd_app_r (s := s) (ls := [.lst ls]) (n := s.length) (k := 0) rfl
    rw [← h1, ← h2]
    generalize ps.map pickP = pp at *
    have tk := takes_lp (odP o') (r1 (pp.map D.p))
    have w1 := wr_app_r (s := s) (ls := [.lst (pp.map D.p)]) (n := s.length) (k := 0) rfl .dead
    simp [tk, w1]
/-! ### the law's shortened picks -/
def dec2 (f : List Pk) : Prop := f.Pairwise fun a b => b.2 < a.2
theorem all_last {m : Int} {f : List Pk} (h : dec2 f) : (f.all fun q => decide (m < q.2)) = ltLast m f := by
  rcases List.eq_nil_or_concat f with rfl | ⟨f0, q, rfl⟩
  · rfl
  · rw [List.concat_eq_append] at *
    have e : ltLast m (f0 ++ [q]) = decide (m < q.2) := by
      unfold ltLast
      simp
    rw [e, List.all_append]
    simp only [List.all_cons, List.all_nil, Bool.and_true]
    by_cases hq : m < q.2
    · have : (f0.all fun q => decide (m < q.2)) = true := by
        rw [List.all_eq_true]
        intro a ha
        have := (List.pairwise_append.mp h).2.2 a ha q List.mem_cons_self
        exact decide_eq_true (by omega)
      rw [this, Bool.true_and]
    · rw [decide_eq_false hq, Bool.and_false]
theorem dec_app {m : Pk} {f : List Pk} (h : dec2 f) (hl : ltLast m.2 f = true) : dec2 (f ++ [m]) := by
  refine List.pairwise_append.mpr ⟨h, List.pairwise_singleton _ _, fun a ha b hb => ?_⟩
  rw [List.mem_singleton.mp hb]
  rw [← all_last h, List.all_eq_true] at hl
  exact of_decide_eq_true (hl a ha)
def ixF (F : List Pk) (k : Nat) : List P := match F[k]?, F[k + 1]? with
  | some p, some q => if p.1 = q.1 then [] else [pickP p]
  | some p, none => [pickP p]
  | _, _ => []
theorem keep_ix : ∀ F : List Pk, (List.range F.length).flatMap (ixF F) = (keepR F).map pickP
  | [] => rfl
  | [p] => rfl
  | p :: q :: r => by
    have i := keep_ix (q :: r)
    rw [List.length_cons, List.range_succ_eq_map, List.flatMap_cons, List.flatMap_map]
    have e : (fun k => ixF (p :: q :: r) (k + 1)) = ixF (q :: r) := by
      funext k
      simp only [ixF, List.getElem?_cons_succ]
    rw [show (fun a => ixF (p :: q :: r) (Nat.succ a)) = ixF (q :: r) from e, i]
    simp only [ixF, keepR, List.getElem?_cons_zero, List.getElem?_cons_succ]
    split <;> simp
theorem lawShort (h769 : T 769 = some o769) (n : Nat) {ps : List Pk} (hl : ps.length ≤ 100000) (s : Store) : callF T L (n + 1) 769 [.p (.list (ps.map pickP))] s = .ok (.p (.tuple ((short ps).map pickP))) s := by
  suffices g : (callF T L (n + 1) 769 [.p (.list (ps.map pickP))] s).sat fun d s' => d = .p (.tuple ((short ps).map pickP)) ∧ s' = s by
    obtain ⟨d, s', e, rfl, rfl⟩ := sat_ex g
    exact e
  rw [callF_app h769 _ _ rfl]
  simp [o769, -List.map_map]
  try simp only [sat_fin, sat_nxt, sat_st, sat_and]
  refine (for_sat (fun xs σ st => ∃ (f rs : List Pk) (a b c e : Option D), xs = rs.map pickP ∧ shGo f rs = shGo [] ps ∧ dec2 f ∧ f.length + rs.length ≤ 100000 ∧ st = s ++ [.lst ((f.map pickP).map D.p)] ∧
      σ = [some (.p (.list (ps.map pickP))), some (.loc s.length), a, b, c, e]) ⟨[], ps, none, none, none, none, rfl, rfl, List.Pairwise.nil, by simpa using hl, rfl, rfl⟩ ?_).imp ?_ fun _ _ h => h
  · rintro x r σ st ⟨f, rs, a, b, c, e, hx, hg, hd, hl2, rfl, rfl⟩
    cases rs with
    | nil => simp at hx
    | cons p rs =>
      simp only [List.map_cons, List.cons.injEq] at hx
      obtain ⟨rfl, rfl⟩ := hx
      simp only [shGo] at hg
      simp only [List.length_cons] at hl2
      have r1 := fun (ls : List D) => rd_app_r (s := s) (ls := [.lst ls]) (n := s.length) (k := 0) rfl
      have w1 := fun (ls : List D) (ob : Ob) => wr_app_r (s := s) (ls := [.lst ls]) (n := s.length) (k := 0) rfl ob
      have ty : pickP p = .tuple [odP p.1, .int p.2] := rfl
      have cv := compV_ret (cf := callF T L n) (b := s.length) (e := .cmp .lt (.var 3) (.idx (.var 5) (.lit (.int 1)))) (t := .name 5) (i := 1) (c := .none) (σ := [some (.p (.list (ps.map pickP))), some (.loc s.length), some (.p (odP p.1)), some (.p (.int p.2)), c, e]) (s := s ++ [.lst ((f.map pickP).map D.p)]) (l := s.length) (ps := f.map pickP)
        (fun x => match x with
          | .tuple [_, .int k] => [.bool (decide (p.2 < k))]
          | _ => []) rfl (r1 _) (fun x hx => by
            obtain ⟨q, _, rfl⟩ := List.mem_map.mp hx
            exact (gd_pk q).lay) (fun x hx => by
            obtain ⟨q, _, rfl⟩ := List.mem_map.mp hx
            simp [turnE_app, pickP]) (by
            have : ∀ g : List Pk, ((g.map pickP).flatMap fun x => match x with
              | .tuple [_, .int k] => [PyData.bool (decide (p.2 < k))]
              | _ => []).length = g.length := by
              intro g
              induction g with
              | nil => rfl
              | cons q g ih => rw [List.map_cons, List.flatMap_cons, List.length_append, ih]; simp [pickP]; omega
            rw [this]; omega)
      have fm : ((f.map pickP).flatMap fun x => match x with
          | .tuple [_, .int k] => [PyData.bool (decide (p.2 < k))]
          | _ => []) = f.map fun q => PyData.bool (decide (p.2 < q.2)) := by
        clear cv hg hd hl2
        induction f with
        | nil => rfl
        | cons q f ih => rw [List.map_cons, List.flatMap_cons, ih]; rfl
      rw [fm] at cv
      have tb := toBools_map (fun q : Pk => decide (p.2 < q.2)) f
      have al := all_last (m := p.2) hd
      have alb : ((f.map fun q : Pk => decide (p.2 < q.2)).all id) = ltLast p.2 f := by rw [← al, List.all_map]; rfl
      generalize hB : (f.map fun q => PyData.bool (decide (p.2 < q.2))) = B at *
      have gl : (f.map pickP).length < 16777216 := by rw [List.length_map]; omega
      generalize hFP : f.map pickP = FP at *
      generalize odP p.1 = op at *
      cases hlt : ltLast p.2 f with
      | true =>
        rw [if_pos hlt] at hg
        rw [hlt] at alb
        simp [turnS_app, ty, cv, tb, alb, r1, w1, gl]
        exact ⟨f ++ [p], rs, rfl, hg, dec_app hd hlt, by rw [List.length_append, List.length_singleton]; omega, by rw [← List.map_map, List.map_append (f := pickP), hFP, List.map_append]; simp [ty]⟩
      | false =>
        rw [if_neg (by rw [hlt]; decide)] at hg
        rw [hlt] at alb
        simp [turnS_app, ty, cv, tb, alb, r1, w1]
        exact ⟨f, rs, rfl, hg, hd, by omega, by rw [← List.map_map, hFP]⟩
  · rintro σ st ⟨f, rs, a, b, c, e, hx, hg, hd, hl2, rfl, rfl⟩
    have : rs = [] := by cases rs with | nil => rfl | cons _ _ => simp at hx
    subst this
    simp only [shGo] at hg
    simp only [List.length_nil, Nat.add_zero] at hl2
    have r1 := fun (ls : List D) => rd_app_r (s := s) (ls := [.lst ls]) (n := s.length) (k := 0) rfl
    have kz := keep_ix f
    have kl := keepR_len f
    have hsh : short ps = keepR f := by unfold short; rw [hg]
    rw [hsh]
    have gfm : ((rngI 0 f.length).flatMap fun x => match x with
        | .int k => ixF f k.toNat
        | _ => []) = (keepR f).map pickP := by
      rw [← kz]
      unfold rngI
      rw [List.flatMap_map]
      congr 1
      funext k
      show ixF f ((0 : Int) + (k : Int)).toNat = _
      rw [show ((0 : Int) + (k : Int)).toNat = k by omega]
    have hc := comp_bind (f := turnE (callF T L n) s.length [some (.p (.list (ps.map pickP))), some (.loc s.length), a, b, c, e] (.idx (.var 1) (.var 4)) (.name 4) (.some (.or (.cmp .eq (.bin .add (.var 4) (.lit (.int 1))) (.blt .len (.cons (.var 1) .nil))) (.cmp .ne (.idx (.idx (.var 1) (.var 4)) (.lit (.int 0))) (.idx (.idx (.var 1) (.bin .add (.var 4) (.lit (.int 1)))) (.lit (.int 0)))))))
      (fun x => match x with
        | .int k => ixF f k.toNat
        | _ => []) (s := s ++ [.lst ((f.map pickP).map D.p)]) (xs := rngI 0 f.length) (acc := []) (fun x hx => by
        obtain ⟨j, rfl, j0, j1⟩ := rng_in hx
        obtain ⟨k, rfl⟩ := Int.eq_ofNat_of_zero_le j0
        have kl : k < f.length := by omega
        have g1 : L2.atI ((f.map pickP).map D.p) (k : Int) = some (.p (pickP f[k])) := by
          rw [atI_nat]
          simp [kl]
        have fl : (f.map pickP).length = f.length := List.length_map ..
        have ty : ∀ q : Pk, pickP q = .tuple [odP q.1, .int q.2] := fun _ => rfl
        have e1 : eqP (.int ((k : Int) + 1)) (.int (f.length : Int)) = some (decide (k + 1 = f.length)) := by
          rw [eq_ints]
          congr 1
          exact decide_eq_decide.mpr (by omega)
        by_cases hlast : k + 1 = f.length
        · have ix : ixF f k = [pickP f[k]] := by
            unfold ixF
            rw [List.getElem?_eq_getElem kl, List.getElem?_eq_none (by omega)]
          rw [decide_eq_true hlast] at e1
          show _ = Res.ok (ixF f k) _
          rw [ix]
          generalize pickP f[k] = pk at *
          generalize f.map pickP = FP at *
          simp [turnE_app, r1, g1, fl, e1]
        · have kl2 : k + 1 < f.length := by omega
          have g2 : L2.atI ((f.map pickP).map D.p) ((k : Int) + 1) = some (.p (pickP f[k + 1])) := by
            have : L2.atI ((f.map pickP).map D.p) ((k + 1 : Nat) : Int) = some (.p (pickP f[k + 1])) := by
              rw [atI_nat]
              simp [kl2]
            exact this
          have ix : ixF f k = if f[k].1 = f[k + 1].1 then [] else [pickP f[k]] := by
            unfold ixF
            rw [List.getElem?_eq_getElem kl, List.getElem?_eq_getElem kl2]
          rw [decide_eq_false hlast] at e1
          have e2 := eq_od f[k].1 f[k + 1].1
          show _ = Res.ok (ixF f k) _
          rw [ix]
          rw [ty] at g1 g2
          rw [ty]
          by_cases heq : f[k].1 = f[k + 1].1
          · rw [decide_eq_true heq] at e2
            rw [if_pos heq]
            generalize odP f[k].1 = p1 at *
            generalize odP f[k + 1].1 = p2 at *
            generalize f.map pickP = FP at *
            simp [turnE_app, r1, g1, g2, fl, e1, e2]
          · rw [decide_eq_false heq] at e2
            rw [if_neg heq]
            generalize odP f[k].1 = p1 at *
            generalize odP f[k + 1].1 = p2 at *
            generalize f.map pickP = FP at *
            simp [turnE_app, r1, g1, g2, fl, e1, e2]) (by rw [gfm]; simp only [List.length_nil, List.length_map]; omega)
    rw [gfm] at hc
    simp only [List.nil_append] at hc
    obtain ⟨m, hm⟩ : ∃ m : Int, m = f.length := ⟨_, rfl⟩
    have rk : rngOk m = true := rngOk_ok (by omega) (by omega)
    have fl : ((f.map pickP).length : Int) = m := by rw [List.length_map, hm]
    have ft : f.length = m.toNat := by omega
    rw [ft] at hc
    clear hm ft hl2 kz gfm kl
    generalize (keepR f).map pickP = K at *
    generalize f.map pickP = FP at *
    simp [r1, fl, rk, hc]
theorem lawForm (H : HNfL T) (n : Nat) {xs : List Sim} (hc : ∀ x, x ∈ xs → SimOk x) (hN : xs.length ≤ 100000) (s : Store) :
    callF T L (n + 3) 770 [.p (.tuple (xs.map simP))] s = .ok (.p (nfP (xs.map Cmd.s))) s := by
  rw [callF_app H.t770 _ _ rfl]
  have p := lawPicked (L := L) H n (o := o0d) hc (OdOk.nil true) hN
  have hl : (pkB (xs.map Cmd.s) o0d).1.length ≤ 100000 := by
    rw [pkB_len]
    have : ∀ cs : List Sim, pkNs (cs.map Cmd.s) ≤ cs.length := by
      intro cs
      induction cs with
      | nil => simp [pkNs]
      | cons c cs ih =>
        have : simN c ≤ 1 := by cases c <;> simp [simN]
        simp only [List.map_cons, pkNs, pkN, List.length_cons]
        omega
    have := this xs
    omega
  have sh := lawShort (L := L) H.t769 (n + 1) hl
  have e0 : odP o0d = .tuple [.tuple [.str "place", .str "up"]] := rfl
  rw [e0] at p
  unfold nfP
  generalize (short (pkB (xs.map Cmd.s) o0d).1).map pickP = X at *
  generalize (pkB (xs.map Cmd.s) o0d).1.map pickP = Y at *
  generalize odP (pkB (xs.map Cmd.s) o0d).2 = Z at *
  generalize xs.map simP = W at *
  simp [o770, p, sh]
end
end Ev


end
section
namespace Ev
open PySem PySem.Spec PyProof.Rows L2 Own
section
variable {T : Tab} {L : Nat → Bool}
/-! ### how long what is shown may be -/
theorem sh_od {o : Od} (h : OdOk o) : Sh 2 125 (odP o) := by
  have l4 := h.len
  refine (sh_tup (k := 1) (w := 24) (xs := o.1.map keyP ++ [plP o.2]) (fun x hx => ?_)).mono (by decide) ?_
  · rcases List.mem_append.mp hx with z | z
    · obtain ⟨k, hk, rfl⟩ := List.mem_map.mp z
      have := h.rng k hk
      exact sh_key (by omega)
    · rw [List.mem_singleton.mp z]; exact sh_pl _
  · simp; omega
theorem lf_dir (u : Bool) : Lf (dirP u) := by cases u <;> exact lf_str (str_lit _)
theorem lf_od {o : Od} (h : OdOk o) : Lf (odP o) := lf_tup fun x hx => by
  rcases List.mem_append.mp hx with z | z
  · obtain ⟨k, hk, rfl⟩ := List.mem_map.mp z
    have := h.rng k hk
    refine lf_tup fun y hy => ?_
    simp only [List.mem_cons, List.not_mem_nil, or_false] at hy
    rcases hy with rfl | rfl
    · exact lf_int (by omega)
    · exact lf_dir _
  · rw [List.mem_singleton.mp z]
    refine lf_tup fun y hy => ?_
    simp only [List.mem_cons, List.not_mem_nil, or_false] at hy
    rcases hy with rfl | rfl
    · exact lf_str (str_lit _)
    · exact lf_dir _
structure PkOk (p : Pk) : Prop where
  o : OdOk p.1
  m : 2 ≤ p.2 ∧ p.2 ≤ 29
theorem sh_pk {p : Pk} (h : PkOk p) : Sh 3 252 (pickP p) := (sh_tup (k := 2) (w := 125) fun y hy => by
  have := h.m
  simp only [List.mem_cons, List.not_mem_nil, or_false] at hy
  rcases hy with rfl | rfl
  · exact sh_od h.o
  · exact (sh_int (b := 5) (by decide) (by decide) (by omega)).mono (by decide) (by decide)).mono (Nat.le_refl _) (by simp)
theorem lf_pk {p : Pk} (h : PkOk p) : Lf (pickP p) := lf_tup fun y hy => by
  have := h.m
  simp only [List.mem_cons, List.not_mem_nil, or_false] at hy
  rcases hy with rfl | rfl
  · exact lf_od h.o
  · exact lf_int (by omega)
theorem simPk_ok {o : Od} (ho : OdOk o) {x : Sim} (h : SimOk x) : ∀ p, p ∈ simPk o x → PkOk p := by
  intro p hp
  cases x with
  | cut f m =>
    cases f with
    | true =>
      simp only [simPk, List.mem_singleton] at hp
      subst hp
      exact ⟨ho, h⟩
    | false =>
      simp only [simPk, List.mem_singleton] at hp
      subst hp
      exact ⟨ho.turn, h⟩
  | _ => simp [simPk] at hp
mutual
theorem pkC_pk : ∀ (c : Cmd) {d : Nat} {o : Od}, CmdOk c d → OdOk o → ∀ p, p ∈ (pkC c o).1 → PkOk p
  | .s x, _, o, h, ok, p, hp => by
    simp only [CmdOk] at h
    simp only [pkC] at hp
    exact simPk_ok ok h p hp
  | .r t b, _, o, h, ok, p, hp => by
    simp only [CmdOk] at h
    simp only [pkC] at hp
    split at hp
    · rcases List.mem_append.mp hp with z | z
      · exact pkB_pk b h.2.2.2.2 ok p z
      · exact pkB_pk b h.2.2.2.2 (pkB_ok b h.2.2.2.2 ok) p z
    · exact pkB_pk b h.2.2.2.2 ok p hp
theorem pkB_pk : ∀ (cs : List Cmd) {d : Nat} {o : Od}, CmdsOk cs d → OdOk o → ∀ p, p ∈ (pkB cs o).1 → PkOk p
  | [], _, _, _, _, p, hp => by simp [pkB] at hp
  | c :: cs, _, o, h, ok, p, hp => by
    simp only [CmdsOk] at h
    simp only [pkB] at hp
    rcases List.mem_append.mp hp with z | z
    · exact pkC_pk c h.1 ok p z
    · exact pkB_pk cs h.2 (pkC_ok c h.1 ok) p z
end
theorem shGo_mem : ∀ (ps f : List Pk) (p : Pk), p ∈ shGo f ps → p ∈ f ∨ p ∈ ps
  | [], f, p, h => .inl h
  | q :: ps, f, p, h => by
    simp only [shGo] at h
    split at h
    · rcases shGo_mem ps _ p h with z | z
      · rcases List.mem_append.mp z with z | z
        · exact .inl z
        · exact .inr (by rw [List.mem_singleton.mp z]; exact List.mem_cons_self)
      · exact .inr (List.mem_cons_of_mem _ z)
    · rcases shGo_mem ps _ p h with z | z
      · exact .inl z
      · exact .inr (List.mem_cons_of_mem _ z)
theorem keepR_mem : ∀ (ps : List Pk) (p : Pk), p ∈ keepR ps → p ∈ ps
  | [], _, h => h
  | [_], _, h => h
  | q :: r :: ps, p, h => by
    simp only [keepR] at h
    split at h
    · exact List.mem_cons_of_mem _ (keepR_mem (r :: ps) p h)
    · rcases List.mem_cons.mp h with z | z
      · rw [z]; exact List.mem_cons_self
      · exact List.mem_cons_of_mem _ (keepR_mem (r :: ps) p z)
theorem short_mem {ps : List Pk} {p : Pk} (h : p ∈ short ps) : p ∈ ps := by
  rcases shGo_mem ps [] p (keepR_mem _ p h) with z | z
  · cases z
  · exact z
theorem sh_nf {cs : List Cmd} {d : Nat} (h : CmdsOk cs d) (hN : pkNs cs ≤ 700) : Sh 5 360000 (nfP cs) ∧ Lf (nfP cs) := by
  have ok := pkB_ok cs h (OdOk.nil true)
  have pk : ∀ p, p ∈ short (pkB cs o0d).1 → PkOk p := fun p hp => pkB_pk cs h (OdOk.nil true) p (short_mem hp)
  have ln : (short (pkB cs o0d).1).length ≤ 700 := Nat.le_trans (short_len _) (by rw [pkB_len]; exact hN)
  have s1 : Sh 4 177100 (.tuple ((short (pkB cs o0d).1).map pickP)) := (sh_tup (k := 3) (w := 252) fun y hy => by
    obtain ⟨p, hp, rfl⟩ := List.mem_map.mp hy
    exact sh_pk (pk p hp)).mono (Nat.le_refl _) (by rw [List.length_map]; exact Nat.le_trans (Nat.mul_le_mul_right _ ln) (by decide))
  have l1 : Lf (.tuple ((short (pkB cs o0d).1).map pickP)) := lf_tup fun y hy => by
    obtain ⟨p, hp, rfl⟩ := List.mem_map.mp hy
    exact lf_pk (pk p hp)
  refine ⟨(sh_tup (k := 4) (w := 177100) fun y hy => ?_).mono (Nat.le_refl _) (by simp), lf_tup fun y hy => ?_⟩
  · simp only [List.mem_cons, List.not_mem_nil, or_false] at hy
    rcases hy with rfl | rfl
    · exact s1
    · exact (sh_od ok).mono (by decide) (by decide)
  · simp only [List.mem_cons, List.not_mem_nil, or_false] at hy
    rcases hy with rfl | rfl
    · exact l1
    · exact lf_od ok
theorem sh_sim {x : Sim} (h : SimOk x) : Sh 1 18 (simP x) ∧ Lf (simP x) := by
  have st : ∀ w : String, (PySem.Str.ofString w).cps.size ≤ 8 → Sh 0 8 (.str (PySem.Str.ofString w)) ∧ Lf (.str (PySem.Str.ofString w)) := fun w hw => ⟨sh_str (str_lit w) hw, lf_str (str_lit w)⟩
  have it : ∀ i : Int, 0 ≤ i → i ≤ 29 → Sh 0 8 (.int i) ∧ Lf (.int i) := fun i h0 h1 => ⟨(sh_int (b := 5) (by decide) (by decide) (by omega)).mono (by decide) (by decide), lf_int (by omega)⟩
  have two : ∀ a b : P, Sh 0 8 a ∧ Lf a → Sh 0 8 b ∧ Lf b → Sh 1 18 (.tuple [a, b]) ∧ Lf (.tuple [a, b]) := fun a b ha hb => ⟨(sh_tup (k := 0) (w := 8) fun y hy => by
    simp only [List.mem_cons, List.not_mem_nil, or_false] at hy
    rcases hy with rfl | rfl
    · exact ha.1
    · exact hb.1).mono (Nat.le_refl _) (by simp), lf_tup fun y hy => by
    simp only [List.mem_cons, List.not_mem_nil, or_false] at hy
    rcases hy with rfl | rfl
    · exact ha.2
    · exact hb.2⟩
  have one : ∀ a : P, Sh 0 8 a ∧ Lf a → Sh 1 18 (.tuple [a]) ∧ Lf (.tuple [a]) := fun a ha => ⟨(sh_tup (k := 0) (w := 8) fun y hy => by
    rw [List.mem_singleton.mp hy]; exact ha.1).mono (Nat.le_refl _) (by simp), lf_tup fun y hy => by
    rw [List.mem_singleton.mp hy]; exact ha.2⟩
  cases x with
  | srt u c =>
    have h0 := h.1
    have h1 := h.2
    cases u
    · exact two _ _ (st "down" (by decide)) (it c h0 (by omega))
    · exact two _ _ (st "up" (by decide)) (it c h0 (by omega))
  | rev => exact one _ (st "reverse" (by decide))
  | res => exact one _ (st "restore" (by decide))
  | cut f m =>
    have h0 := h.1
    have h1 := h.2
    cases f
    · exact two _ _ (st "last" (by decide)) (it m (by omega) h1)
    · exact two _ _ (st "first" (by decide)) (it m (by omega) h1)
def lotP (xs : List Sim) : P := .tuple (xs.map simP)
structure LotOk (xs : List Sim) : Prop where
  len : xs.length ≤ 400
  ok : ∀ x, x ∈ xs → SimOk x
theorem sh_lot {xs : List Sim} (h : LotOk xs) : Sh 2 7600 (lotP xs) ∧ Lf (lotP xs) := ⟨(sh_tup (k := 1) (w := 18) fun y hy => by
    obtain ⟨p, hp, rfl⟩ := List.mem_map.mp hy
    exact (sh_sim (h.ok p hp)).1).mono (Nat.le_refl _) (by rw [List.length_map]; have := h.len; omega), lf_tup fun y hy => by
    obtain ⟨p, hp, rfl⟩ := List.mem_map.mp hy
    exact (sh_sim (h.ok p hp)).2⟩
theorem sh_lots {xss : List (List Sim)} (h : ∀ xs, xs ∈ xss → LotOk xs) (hl : xss.length ≤ 5) : Sh 3 38005 (.list (xss.map lotP)) ∧ Lf (.list (xss.map lotP)) := ⟨(sh_list (k := 2) (w := 7600) fun y hy => by
    obtain ⟨p, hp, rfl⟩ := List.mem_map.mp hy
    exact (sh_lot (h p hp)).1).mono (Nat.le_refl _) (by rw [List.length_map]; omega), lf_list fun y hy => by
    obtain ⟨p, hp, rfl⟩ := List.mem_map.mp hy
    exact (sh_lot (h p hp)).2⟩
theorem LotOk.cmds {xs : List Sim} (h : LotOk xs) : CmdsOk (xs.map Cmd.s) 3 ∧ wts (xs.map Cmd.s) ≤ 400 ∧ pkNs (xs.map Cmd.s) ≤ 400 ∧ lotP xs = progP (xs.map Cmd.s) := by
  refine ⟨oks_all.mpr fun c hc => ?_, by rw [sim_wt]; have := h.len; omega, ?_, ?_⟩
  · obtain ⟨x, hx, rfl⟩ := List.mem_map.mp hc
    simp only [CmdOk]
    exact h.ok x hx
  · have : ∀ cs : List Sim, pkNs (cs.map Cmd.s) ≤ cs.length := by
      intro cs
      induction cs with
      | nil => simp [pkNs]
      | cons c cs ih =>
        have : simN c ≤ 1 := by cases c <;> simp [simN]
        simp only [List.map_cons, pkNs, pkN, List.length_cons]
        omega
    have := this xs
    have := h.len
    omega
  · unfold progP lotP
    rw [cmdsP_map, sim_map]
/-! ### laws' ends -/
theorem Drawn.refl {s : Store} {i : Nat} (h : PoolOk s i) : Drawn i s s := by
  obtain ⟨a, b, c, e, h1, h2, h3⟩ := h.ex
  have hl := h.lt
  refine ⟨⟨a, b, c, ?_, h1, h2, h3⟩, hl⟩
  have e' : s[i] = pool a b c := by
    have : s[i]? = some (pool a b c) := e
    rw [List.getElem?_eq_getElem hl] at this
    exact Option.some.inj this
  unfold wr
  rw [← e', List.set_getElem_self]
theorem fin_all (H : HPool T L) {n R : Nat} {N : Int} (n0 : 0 ≤ N) (n1 : N ≤ 100) (ns : List Int) (b : Nat) (s : Store) (x1 x2 x3 x4 x5 x6 y : Option D)
    (hr : ∀ (s : Store) (i : Nat), PoolOk s i → (callF T L (n + 1) R [.loc i] s).sat fun d _ => d = .p (.bool true)) :
    (evE (callF T L (n + 1)) b (.blt .all (.cons (.comp (.call R (.cons (.call 8 (.cons (.call 7 (.cons (.var 0) (.cons (.var 7) .nil))) .nil)) .nil)) (.name 7) (.rng1 (.blt .max2 (.cons (.lit (.int 2)) (.cons (.blt .min2 (.cons (.lit (.int N)) (.cons (.blt .len (.cons (.var 0) .nil)) .nil))) .nil)))) .none) .nil)) [some (.scr ns), x1, x2, x3, x4, x5, x6, y] s).sat fun d _ => d = .p (.bool true) := by
  simp
  try simp only [sat_fin, sat_nxt, sat_st, sat_and]
  generalize hk : (if (2 : Int) < (if (ns.length : Int) < N then (ns.length : Int) else N) then (if (ns.length : Int) < N then (ns.length : Int) else N) else (2 : Int)) = k
  have k8 : k ≤ 102 := by rw [← hk]; split <;> split <;> omega
  have k0 : 0 ≤ k := by rw [← hk]; split <;> split <;> omega
  have rk := rngOk_ok (i := k) (by omega) (by omega)
  simp [rk]
  try simp only [sat_fin, sat_nxt, sat_st, sat_and]
  refine (comp_sat (xs := rngI 0 k.toNat) (acc := []) (fun xs acc st => acc.length + xs.length ≤ 102 ∧ (∀ p, p ∈ xs → ∃ j : Int, p = .int j ∧ 0 ≤ j ∧ j < 102) ∧ ∃ m, acc = List.replicate m (.bool true)) ⟨by simp [rngI]; omega, fun p hp => ?_, 0, rfl⟩ ?_).imp ?_
  · obtain ⟨j, rfl, h0, h1⟩ := rng_in hp
    exact ⟨j, rfl, h0, by omega⟩
  · rintro p r acc st ⟨hl, hp, m, rfl⟩
    obtain ⟨j, rfl, j0, j1⟩ := hp p List.mem_cons_self
    simp [turnE_app]
    try simp only [sat_fin, sat_nxt, sat_st, sat_and]
    refine (cell H n ns j j0 (by omega)).imp ?_
    rintro _ _ ⟨rfl, v, rfl⟩
    simp
    try simp only [sat_fin, sat_nxt, sat_st, sat_and]
    refine (newpool H n _ v).imp ?_
    rintro _ s2 ⟨rfl, _, pk⟩
    simp
    try simp only [sat_fin, sat_nxt, sat_st, sat_and]
    refine (hr s2 _ pk).imp ?_
    rintro _ s3 rfl
    simp at hl
    simp
    exact ⟨by omega, by omega, fun p h => hp p (List.mem_cons_of_mem _ h), m + 1, by rw [List.replicate_succ']⟩
  · rintro acc st ⟨_, _, m, rfl⟩
    have := toBools_map (fun _ : P => true) (List.replicate m .none)
    simp only [List.map_replicate] at this
    simp [this]
theorem compGo_nil (f : P → M (List P)) (acc : List P) (s : Store) : compGo f [] acc s = .ok acc s := rfl
theorem eq_same {k : Nat} {x : P} (g : Gd k x) (h : k ≤ 64) : eqP x x = some true := by rw [eqP_g g g h, eqv_self _ g.lay]
/-- sizes fall: at most thirty picks are left -/
theorem shGo_dec : ∀ (ps f : List Pk), dec2 f → dec2 (shGo f ps)
  | [], _, h => h
  | p :: ps, f, h => by
    simp only [shGo]
    split
    · rename_i hl
      exact shGo_dec ps _ (dec_app h hl)
    · exact shGo_dec ps f h
theorem dec_len {f : List Pk} (h : dec2 f) (ok : ∀ p, p ∈ f → PkOk p) : f.length ≤ 30 := by
  have := nodup_len 30 (f.map (·.2)) (List.pairwise_map.mpr (List.Pairwise.imp (R := fun a b : Pk => b.2 < a.2) (S := fun a b : Pk => a.2 ≠ b.2) (fun {a b} h => by omega) h)) fun k hk => by
    obtain ⟨q, hq, rfl⟩ := List.mem_map.mp hk
    have := (ok q hq).m
    omega
  rwa [List.length_map] at this
theorem short_len30 {ps : List Pk} (ok : ∀ p, p ∈ ps → PkOk p) : (short ps).length ≤ 30 :=
  Nat.le_trans (keepR_len _) (dec_len (shGo_dec ps [] List.Pairwise.nil) fun p hp => by
    rcases shGo_mem ps [] p hp with z | z
    · cases z
    · exact ok p z)
theorem sh_nfS {cs : List Cmd} {d : Nat} (h : CmdsOk cs d) : Sh 5 16000 (nfP cs) ∧ Lf (nfP cs) := by
  have ok := pkB_ok cs h (OdOk.nil true)
  have pk : ∀ p, p ∈ short (pkB cs o0d).1 → PkOk p := fun p hp => pkB_pk cs h (OdOk.nil true) p (short_mem hp)
  have ln : (short (pkB cs o0d).1).length ≤ 30 := short_len30 fun p hp => pkB_pk cs h (OdOk.nil true) p hp
  have s1 : Sh 4 7590 (.tuple ((short (pkB cs o0d).1).map pickP)) := (sh_tup (k := 3) (w := 252) fun y hy => by
    obtain ⟨p, hp, rfl⟩ := List.mem_map.mp hy
    exact sh_pk (pk p hp)).mono (Nat.le_refl _) (by rw [List.length_map]; exact Nat.le_trans (Nat.mul_le_mul_right _ ln) (by decide))
  have l1 : Lf (.tuple ((short (pkB cs o0d).1).map pickP)) := lf_tup fun y hy => by
    obtain ⟨p, hp, rfl⟩ := List.mem_map.mp hy
    exact lf_pk (pk p hp)
  refine ⟨(sh_tup (k := 4) (w := 7590) fun y hy => ?_).mono (Nat.le_refl _) (by simp), lf_tup fun y hy => ?_⟩
  · simp only [List.mem_cons, List.not_mem_nil, or_false] at hy
    rcases hy with rfl | rfl
    · exact s1
    · exact (sh_od ok).mono (by decide) (by decide)
  · simp only [List.mem_cons, List.not_mem_nil, or_false] at hy
    rcases hy with rfl | rfl
    · exact l1
    · exact lf_od ok
end
end Ev


end
section
namespace Ev
open PySem PySem.Spec PyProof.Rows L2 Own
theorem befB_trn (t : Tb) : ∀ (ks : Ky) (u : Bool) (a b : Nat), befB t (ks.map trn) (!u) a b = befB t ks u b a
  | [], u, a, b => by cases u <;> simp [befB]
  | k :: ks, u, a, b => by
    have ih := befB_trn t ks u a b
    show (if vl t k.1 a = vl t k.1 b then befB t (ks.map trn) (!u) a b else (decide (vl t k.1 a < vl t k.1 b) == !k.2)) = if vl t k.1 b = vl t k.1 a then befB t ks u b a else (decide (vl t k.1 b < vl t k.1 a) == k.2)
    rw [ih]
    by_cases e : vl t k.1 a = vl t k.1 b
    · rw [if_pos e, if_pos e.symm]
    · rw [if_neg e, if_neg fun x => e x.symm]
      by_cases c : vl t k.1 a < vl t k.1 b
      · have : ¬ vl t k.1 b < vl t k.1 a := by omega
        rw [decide_eq_true c, decide_eq_false this]
        cases k.2 <;> rfl
      · have : vl t k.1 b < vl t k.1 a := by omega
        rw [decide_eq_false c, decide_eq_true this]
        cases k.2 <;> rfl
theorem places_turn (t : Tb) (ks : Ky) (u : Bool) : placesOf t (ks.map trn, !u) = (placesOf t (ks, u)).reverse := by
  refine places_eq (range_nodup _) ((List.reverse_perm _).trans (places_perm (range_nodup _))) ?_
  rw [List.pairwise_reverse]
  exact (fold_pair (t := t) (u := u) (range_nodup t.length) ks).imp fun {a b} h => by rw [befB_trn]; exact h
theorem rowsAt_rev (t : Tb) (ps : List Nat) : rowsAt t ps.reverse = (rowsAt t ps).reverse := by unfold rowsAt; rw [List.map_reverse]
theorem places_up (t : Tb) : placesOf t ([], true) = List.range t.length := by
  refine places_eq (range_nodup _) (List.Perm.refl _) ?_
  exact List.pairwise_lt_range.imp fun {a b} h => by simp [befB, h]
theorem places_down (t : Tb) : placesOf t ([], false) = (List.range t.length).reverse := (places_turn t [] true).trans (by rw [places_up])
theorem rowsAt_all (t : Tb) : rowsAt t (List.range t.length) = t := by
  unfold rowsAt
  apply List.ext_getElem
  · rw [List.length_map, List.length_range]
  · intro i h1 h2
    rw [List.getElem_map, List.getElem_range, List.getD_eq_getElem?_getD, List.getElem?_eq_getElem h2]
    rfl
theorem vl_rows {t : Tb} {ps : List Nat} {i : Nat} (h : i < ps.length) (c : Int) : vl (rowsAt t ps) c i = vl t c ps[i] := by
  have e : (rowsAt t ps).getD i [] = t.getD ps[i] [] := by
    unfold rowsAt
    rw [List.getD_eq_getElem?_getD, List.getElem?_map, List.getElem?_eq_getElem h]
    rfl
  unfold vl
  rw [e]
theorem befB_rows {t : Tb} {ps : List Nat} {u : Bool} {i j : Nat} (hi : i < ps.length) (hj : j < ps.length) (ij : i < j) : ∀ {ks : Ky}, befB t ks u ps[i] ps[j] = true → befB (rowsAt t ps) ks true i j = true
  | [], _ => by simp [befB, ij]
  | k :: ks, h => by
    simp only [befB, vl_rows hi, vl_rows hj] at h ⊢
    by_cases e : vl t k.1 ps[i] = vl t k.1 ps[j]
    · rw [if_pos e] at h ⊢
      exact befB_rows hi hj ij h
    · rw [if_neg e] at h ⊢
      exact h
theorem rowsAt_len (t : Tb) (ps : List Nat) : (rowsAt t ps).length = ps.length := List.length_map ..
theorem places_again (t : Tb) (ks : Ky) (u : Bool) : placesOf (rowsAt t (placesOf t (ks, u))) (ks, true) = List.range (rowsAt t (placesOf t (ks, u))).length := by
  refine places_eq (range_nodup _) (List.Perm.refl _) ?_
  rw [List.pairwise_iff_getElem]
  intro i j hi hj ij
  rw [List.getElem_range, List.getElem_range]
  rw [List.length_range, rowsAt_len] at hi hj
  exact befB_rows hi hj ij (List.pairwise_iff_getElem.mp (fold_pair (t := t) (u := u) (range_nodup t.length) ks) i j hi hj ij)
theorem sorted_again (t : Tb) (ks : Ky) (u : Bool) : rowsAt (rowsAt t (placesOf t (ks, u))) (placesOf (rowsAt t (placesOf t (ks, u))) (ks, true)) = rowsAt t (placesOf t (ks, u)) := by
  rw [places_again, rowsAt_all]
theorem vl_rev {t : Tb} {p : Nat} (h : p < t.length) (c : Int) : vl t.reverse c p = vl t c (t.length - 1 - p) := by
  have e : t.reverse.getD p [] = t.getD (t.length - 1 - p) [] := by
    rw [List.getD_eq_getElem?_getD, List.getD_eq_getElem?_getD, List.getElem?_reverse h]
  unfold vl
  rw [e]
theorem befB_rev {t : Tb} {u : Bool} {a b : Nat} (ha : a < t.length) (hb : b < t.length) : ∀ {ks : Ky}, befB t.reverse ks (!u) a b = befB t ks u (t.length - 1 - a) (t.length - 1 - b)
  | [] => by
    have e1 : decide (a < b) = decide (t.length - 1 - b < t.length - 1 - a) := decide_eq_decide.mpr (by omega)
    have e2 : decide (b < a) = decide (t.length - 1 - a < t.length - 1 - b) := decide_eq_decide.mpr (by omega)
    cases u <;> simp only [befB, Bool.not_true, Bool.not_false, if_true, Bool.false_eq_true, if_false, e1, e2]
  | k :: ks => by
    simp only [befB, vl_rev ha, vl_rev hb]
    rw [befB_rev ha hb (ks := ks)]
theorem map_back (n : Nat) : (List.range n).map (fun p => n - 1 - p) = (List.range n).reverse := by
  apply List.ext_getElem
  · simp
  · intro i h1 h2
    rw [List.getElem_map, List.getElem_range, List.getElem_reverse, List.getElem_range, List.length_range]
theorem places_mir (t : Tb) (ks : Ky) (u : Bool) : (placesOf t.reverse (ks, !u)).map (fun p => t.length - 1 - p) = placesOf t (ks, u) := by
  refine (places_eq (range_nodup _) ?_ ?_).symm
  · have h : (placesOf t.reverse (ks, !u)).Perm (List.range t.length) := by
      have := places_perm (t := t.reverse) (o := (ks, !u)) (range_nodup t.reverse.length)
      rw [List.length_reverse] at this
      unfold placesOf
      rw [List.length_reverse]
      exact this
    refine (h.map _).trans ?_
    rw [map_back]
    exact List.reverse_perm _
  · rw [List.pairwise_map]
    refine (fold_pair (t := t.reverse) (u := !u) (range_nodup t.reverse.length) ks).imp_of_mem fun {a b} ha hb h => ?_
    have la : a < t.length := by have := placesOf_lt (o := (ks, !u)) ha; rwa [List.length_reverse] at this
    have lb : b < t.length := by have := placesOf_lt (o := (ks, !u)) hb; rwa [List.length_reverse] at this
    rw [← befB_rev la lb]
    exact h
theorem Tk.rows {c : Nat} {t : Tb} (h : Tk c t) (o : Ky × Bool) : Tk c (rowsAt t (placesOf t o)) := by
  refine ⟨by rw [rowsAt_len, placesOf_len]; exact h.ne, by rw [rowsAt_len, placesOf_len]; exact h.le, fun r hr => ?_, h.c1, h.c5⟩
  obtain ⟨p, hp, rfl⟩ := List.mem_map.mp hr
  exact h.at (placesOf_lt hp)
theorem Tk.rev {c : Nat} {t : Tb} (h : Tk c t) : Tk c t.reverse := ⟨by rw [List.length_reverse]; exact h.ne, by rw [List.length_reverse]; exact h.le, fun r hr => h.row r (List.mem_reverse.mp hr), h.c1, h.c5⟩
theorem gd_tab (t : Tb) : Gd 2 (tabP t) := gd_tup (k := 1) fun y hy => by
  obtain ⟨r, _, rfl⟩ := List.mem_map.mp hy
  exact gd_tup (k := 0) fun z hz => by
    obtain ⟨v, _, rfl⟩ := List.mem_map.mp hz
    exact gd_int v
theorem gd_pls (ps : List Nat) : Gd 1 (.tuple (plsP ps)) := gd_tup (k := 0) fun y hy => by
  obtain ⟨p, _, rfl⟩ := List.mem_map.mp hy
  exact gd_int _
theorem eq_tab (t : Tb) : eqP (tabP t) (tabP t) = some true := eq_same (gd_tab t) (by decide)
theorem eq_pls (ps : List Nat) : eqP (.tuple (plsP ps)) (.tuple (plsP ps)) = some true := eq_same (gd_pls ps) (by decide)
theorem rev_tab (t : Tb) : revP (tabP t) = some (tabP t.reverse) := by
  unfold tabP
  rw [List.map_reverse]
  rfl
theorem rev_pls (ps : List Nat) : revP (.tuple (plsP ps)) = some (.tuple (plsP ps.reverse)) := by
  unfold plsP
  rw [List.map_reverse]
  rfl
theorem cut_tail {α : Type} (xs : List α) (x : α) : cutL (xs ++ [x]) (some (-1)) none = [x] := by
  unfold cutL
  rw [HT.sIx_none]
  have : HT.sIx (xs ++ [x]).length 0 (some (-1)) = xs.length := by
    unfold HT.sIx
    simp
    omega
  rw [this]
  simp
theorem slc_keys (ks : Ky) (u : Bool) : slcP (ordP ks u) none (some (-1)) = some (.tuple (ks.map keyP)) := by
  show some (PyData.tuple (cutL (ks.map keyP ++ [plP u]) none (some (-1)))) = _
  rw [cut_last]
theorem slc_last (ks : Ky) (u : Bool) : slcP (ordP ks u) (some (-1)) none = some (ordP [] u) := by
  show some (PyData.tuple (cutL (ks.map keyP ++ [plP u]) (some (-1)) none)) = _
  rw [cut_tail]
  rfl
end Ev


end
section
namespace Ev
open PySem PySem.Spec PyProof.Rows L2 Own
/-! ### sorted key by key -/
theorem keyStep_map {t : Tb} {ps : List Nat} (k : Int × Bool) : rowsAt (rowsAt t ps) (keyStep (rowsAt t ps) k (List.range ps.length)) = rowsAt t (keyStep t k ps) := by
  have vm : (List.range ps.length).map (vl (rowsAt t ps) k.1) = ps.map (vl t k.1) := by
    apply List.ext_getElem
    · simp
    · intro i h1 h2
      rw [List.length_map, List.length_range] at h1
      rw [List.getElem_map, List.getElem_range, List.getElem_map, vl_rows h1]
  have vs : valsOf (rowsAt t ps) k.1 k.2 (List.range ps.length) = valsOf t k.1 k.2 ps := by unfold valsOf; rw [vm]
  have pm : (List.range ps.length).map (fun i => ps.getD i 0) = ps := by
    apply List.ext_getElem
    · simp
    · intro i h1 h2
      rw [List.getElem_map, List.getElem_range, List.getD_eq_getElem?_getD, List.getElem?_eq_getElem h2]
      rfl
  have fm : ∀ v : Int, ((List.range ps.length).filter fun i => decide (vl (rowsAt t ps) k.1 i = v)).map (fun i => ps.getD i 0) = ps.filter fun p => decide (vl t k.1 p = v) := fun v => by
    conv => rhs; rw [← pm]
    rw [List.filter_map]
    congr 1
    apply List.filter_congr
    intro i hi
    have hl := List.mem_range.mp hi
    have e : ps.getD i 0 = ps[i] := by rw [List.getD_eq_getElem?_getD, List.getElem?_eq_getElem hl]; rfl
    show _ = decide (vl t k.1 (ps.getD i 0) = v)
    rw [e, vl_rows hl]
  have main : (keyStep (rowsAt t ps) k (List.range ps.length)).map (fun i => ps.getD i 0) = keyStep t k ps := by
    unfold keyStep
    rw [vs, List.map_flatMap]
    congr 1
    funext v
    exact fm v
  rw [← main]
  unfold rowsAt
  rw [List.map_map]
  apply List.map_congr_left
  intro i hi
  have hl : i < ps.length := List.mem_range.mp (step_mem.mp hi)
  show (ps.map fun p => t.getD p []).getD i [] = t.getD (ps.getD i 0) []
  have e : ps.getD i 0 = ps[i] := by rw [List.getD_eq_getElem?_getD, List.getElem?_eq_getElem hl]; rfl
  rw [e, List.getD_eq_getElem?_getD, List.getElem?_map, List.getElem?_eq_getElem hl]
  rfl
theorem key_more (t : Tb) (k : Int × Bool) (ks : Ky) (u : Bool) : rowsAt (rowsAt t (placesOf t (ks, u))) (placesOf (rowsAt t (placesOf t (ks, u))) ([k], true)) = rowsAt t (placesOf t (k :: ks, u)) := by
  have e1 : placesOf (rowsAt t (placesOf t (ks, u))) ([k], true) = keyStep (rowsAt t (placesOf t (ks, u))) k (placesOf (rowsAt t (placesOf t (ks, u))) ([], true)) := rfl
  have e2 : placesOf t (k :: ks, u) = keyStep t k (placesOf t (ks, u)) := rfl
  rw [e1, e2, places_up, rowsAt_len, keyStep_map]
/-! ### keys that may be left out -/
theorem onceT_le : ∀ xs : List (List Int), (onceT xs).length ≤ xs.length
  | [] => Nat.le_refl _
  | x :: xs => by
    have h := onceT_le xs
    have := List.length_filter_le (fun y => !decide (y = x)) (onceT xs)
    simp only [onceT, List.length_cons]
    omega
theorem onceT_in : ∀ (xs : List (List Int)) (k : List Int), k ∈ xs → k ∈ onceT xs
  | x :: xs, k, h => by
    simp only [onceT, List.mem_cons, List.mem_filter, Bool.not_eq_true', decide_eq_false_iff_not]
    by_cases e : k = x
    · exact .inl e
    · exact .inr ⟨onceT_in xs k ((List.mem_cons.mp h).resolve_left e), e⟩
theorem onceT_nd : ∀ xs : List (List Int), (onceT xs).length = xs.length → xs.Nodup
  | [], _ => List.nodup_nil
  | x :: xs, h => by
    have h1 := onceT_le xs
    have h2 := List.length_filter_le (fun y => !decide (y = x)) (onceT xs)
    simp only [onceT, List.length_cons] at h
    have h3 : ((onceT xs).filter fun y => !decide (y = x)).length = (onceT xs).length := by omega
    have h4 := List.length_filter_eq_length_iff.mp h3
    refine List.nodup_cons.mpr ⟨fun hx => ?_, onceT_nd xs (by omega)⟩
    have := h4 x (onceT_in xs x hx)
    simp at this
theorem once_one {xs : List Int} (h : (onceI xs).length = 1) {a b : Int} (ha : a ∈ xs) (hb : b ∈ xs) : a = b := by
  have h1 := (once_mem xs a).mpr ha
  have h2 := (once_mem xs b).mpr hb
  obtain ⟨c, hc⟩ := List.length_eq_one_iff.mp h
  rw [hc] at h1 h2
  rw [List.mem_singleton.mp h1, List.mem_singleton.mp h2]
def headOf (r : List Int) (ks : Ky) : List Int := ks.map fun k => r.getD k.1.toNat 0
theorem bef_idle {t : Tb} {k : Int × Bool} {u : Bool} {a b : Nat} (h : vl t k.1 a = vl t k.1 b) : ∀ ks1 {ks2 : Ky}, befB t (ks1 ++ k :: ks2) u a b = befB t (ks1 ++ ks2) u a b
  | [], ks2 => by
    show (if vl t k.1 a = vl t k.1 b then befB t ks2 u a b else _) = _
    rw [if_pos h]
    rfl
  | q :: ks1, ks2 => by
    simp only [List.cons_append, befB]
    rw [bef_idle h ks1]
theorem bef_head {t : Tb} {u : Bool} {a b : Nat} : ∀ {ks1 ks2 ks3 : Ky}, headOf (t.getD a []) ks1 ≠ headOf (t.getD b []) ks1 → befB t (ks1 ++ ks2) u a b = befB t (ks1 ++ ks3) u a b
  | [], _, _, h => absurd rfl h
  | q :: ks1, ks2, ks3, h => by
    simp only [List.cons_append, befB]
    by_cases e : vl t q.1 a = vl t q.1 b
    · rw [if_pos e, if_pos e]
      refine bef_head fun z => h ?_
      show _ :: headOf _ ks1 = _ :: headOf _ ks1
      rw [z]
      congr 1
    · rw [if_neg e, if_neg e]
theorem places_cong {t : Tb} {ks qs : Ky} {u : Bool} (h : ∀ a b, a < t.length → b < t.length → a ≠ b → befB t ks u a b = befB t qs u a b) : placesOf t (ks, u) = placesOf t (qs, u) := by
  refine places_eq (range_nodup _) (places_perm (range_nodup _)) ?_
  refine List.Pairwise.imp_of_mem ?_ (List.Pairwise.and (fold_pair (t := t) (u := u) (range_nodup t.length) qs) (places_nodup (t := t) (o := (qs, u)) (range_nodup t.length)))
  intro a b ha hb hab
  rw [h a b (placesOf_lt (o := (qs, u)) ha) (placesOf_lt (o := (qs, u)) hb) hab.2]
  exact hab.1
theorem idle_one {t : Tb} {k : Int × Bool} {ks1 ks2 : Ky} {u : Bool} (h : (onceI (t.map fun r => r.getD k.1.toNat 0)).length = 1) : placesOf t (ks1 ++ ks2, u) = placesOf t (ks1 ++ k :: ks2, u) := by
  refine places_cong fun a b ha hb _ => (bef_idle ?_ ks1).symm
  have e : ∀ p, p < t.length → vl t k.1 p ∈ t.map fun r => r.getD k.1.toNat 0 := fun p hp => List.mem_map.mpr ⟨t[p], List.getElem_mem hp, by
    unfold vl
    rw [List.getD_eq_getElem?_getD (l := t), List.getElem?_eq_getElem hp]
    rfl⟩
  exact once_one h (e a ha) (e b hb)
theorem idle_two {t : Tb} {ks1 ks2 ks3 : Ky} {u : Bool} (h : (onceT (t.map fun r => headOf r ks1)).length = t.length) : placesOf t (ks1 ++ ks2, u) = placesOf t (ks1 ++ ks3, u) := by
  have nd := onceT_nd _ (h.trans (List.length_map ..).symm)
  refine places_cong fun a b ha hb ne => bef_head fun z => ne ?_
  have e : ∀ p (hp : p < t.length), headOf (t.getD p []) ks1 = (t.map fun r => headOf r ks1)[p]'(by rw [List.length_map]; exact hp) := fun p hp => by
    rw [List.getElem_map, List.getD_eq_getElem?_getD, List.getElem?_eq_getElem hp]
    rfl
  rw [e a ha, e b hb] at z
  exact (List.getElem_inj nd).mp z
end Ev


end
section
namespace Ev
open PySem PySem.Spec PyProof.Rows L2 Own
section
variable {T : Tab} {L : Nat → Bool}
/-! ### a law's end, whatever names stand beside the script -/
def allE (R v : Nat) (X : E) : E := .blt .all (.cons (.comp (.call R (.cons (.call 8 (.cons (.call 7 (.cons (.var 0) (.cons (.var v) .nil))) .nil)) .nil)) (.name v) (.rng1 (.blt .max2 (.cons (.lit (.int 2)) (.cons X .nil)))) .none) .nil)
def minNL (N : Int) : E := .blt .min2 (.cons (.lit (.int N)) (.cons (.blt .len (.cons (.var 0) .nil)) .nil))
def minLN (N : Int) : E := .blt .min2 (.cons (.blt .len (.cons (.var 0) .nil)) (.cons (.lit (.int N)) .nil))
theorem end_all (H : HPool T L) {n R v : Nat} {ns : List Int} {σ : Env} {X : E} {b : Nat} {s : Store} (h0 : σ[0]? = some (some (.scr ns))) (v0 : 0 < v) (hv : v < σ.length)
    (hX : ∃ k : Int, k ≤ 100 ∧ evE (callF T L (n + 1)) b X σ s = .ok (.p (.int k)) s)
    (hr : ∀ (s : Store) (i : Nat), PoolOk s i → (callF T L (n + 1) R [.loc i] s).sat fun d _ => d = .p (.bool true)) :
    (evE (callF T L (n + 1)) b (allE R v X) σ s).sat fun d _ => d = .p (.bool true) := by
  obtain ⟨k', k1, hX⟩ := hX
  unfold allE
  have g1 : ∀ (d : D) (s : Store), getV (setV (wipV σ v) v d) 0 s = .ok (.scr ns) s := fun d s => by
    unfold getV setV wipV
    rw [List.set_set, List.getElem?_set_ne (by omega), h0]
  have g2 : ∀ (d : D) (s : Store), getV (setV (wipV σ v) v d) v s = .ok d s := fun d s => by
    unfold getV setV wipV
    rw [List.set_set, List.getElem?_set_self hv]
  simp [hX]
  try simp only [sat_fin, sat_nxt, sat_st, sat_and]
  generalize hk : (if (2 : Int) < k' then k' else (2 : Int)) = k
  have k8 : k ≤ 102 := by rw [← hk]; split <;> omega
  have k0 : 0 ≤ k := by rw [← hk]; split <;> omega
  have rk := rngOk_ok (i := k) (by omega) (by omega)
  simp [rk]
  try simp only [sat_fin, sat_nxt, sat_st, sat_and]
  refine (comp_sat (xs := rngI 0 k.toNat) (acc := []) (fun xs acc st => acc.length + xs.length ≤ 102 ∧ (∀ p, p ∈ xs → ∃ j : Int, p = .int j ∧ 0 ≤ j ∧ j < 102) ∧ ∃ m, acc = List.replicate m (.bool true)) ⟨by simp [rngI]; omega, fun p hp => ?_, 0, rfl⟩ ?_).imp ?_
  · obtain ⟨j, rfl, h0, h1⟩ := rng_in hp
    exact ⟨j, rfl, h0, by omega⟩
  · rintro p r acc st ⟨hl, hp, m, rfl⟩
    obtain ⟨j, rfl, j0, j1⟩ := hp p List.mem_cons_self
    simp [turnE_app, g1, g2]
    try simp only [sat_fin, sat_nxt, sat_st, sat_and]
    refine (cell H n ns j j0 (by omega)).imp ?_
    rintro _ _ ⟨rfl, v, rfl⟩
    simp
    try simp only [sat_fin, sat_nxt, sat_st, sat_and]
    refine (newpool H n _ v).imp ?_
    rintro _ s2 ⟨rfl, _, pk⟩
    simp
    try simp only [sat_fin, sat_nxt, sat_st, sat_and]
    refine (hr s2 _ pk).imp ?_
    rintro _ s3 rfl
    simp at hl
    simp
    exact ⟨by omega, by omega, fun p h => hp p (List.mem_cons_of_mem _ h), m + 1, by rw [List.replicate_succ']⟩
  · rintro acc st ⟨_, _, m, rfl⟩
    have := toBools_map (fun _ : P => true) (List.replicate m .none)
    simp only [List.map_replicate] at this
    simp [this]
theorem end_NL {cf : CF} {ns : List Int} {σ : Env} {N : Int} {b : Nat} {s : Store} (h0 : σ[0]? = some (some (.scr ns))) (n1 : N ≤ 100) : ∃ k : Int, k ≤ 100 ∧ evE cf b (minNL N) σ s = .ok (.p (.int k)) s := by
  unfold minNL
  have g : getV σ 0 s = .ok (.scr ns) s := by unfold getV; rw [h0]
  refine ⟨if (ns.length : Int) < N then ns.length else N, ?_, by simp [g]⟩
  split <;> omega
theorem end_LN {cf : CF} {ns : List Int} {σ : Env} {N : Int} {b : Nat} {s : Store} (h0 : σ[0]? = some (some (.scr ns))) (n1 : N ≤ 100) : ∃ k : Int, k ≤ 100 ∧ evE cf b (minLN N) σ s = .ok (.p (.int k)) s := by
  unfold minLN
  have g : getV σ 0 s = .ok (.scr ns) s := by unfold getV; rw [h0]
  refine ⟨if N < (ns.length : Int) then N else ns.length, ?_, by simp [g]⟩
  split <;> omega
end
end Ev


end
section
namespace Own
open Ev
/-- _law_right -/
def o922 : FD := ⟨1, 13, (.cons (.asg (.name 1) (.call 10 (.cons (.var 0) (.cons (.idx (.lst (.cons (.lit (.int 30)) (.cons (.lit (.int 8)) .nil))) (.blt .int (.cons (.cmp .gt (.call 9 (.cons (.var 0) (.cons (.lit (.int 8)) .nil))) (.lit (.int 0))) .nil))) (.cons (.lit (.int 5)) .nil))))) (.cons (.asg (.name 2) (.blt .min2 (.cons (.lit (.int 4)) (.cons (.blt .len (.cons (.idx (.var 1) (.lit (.int 0))) .nil)) .nil)))) (.cons (.for (.name 3) (.rng1 (.lit (.int 4))) (.cons (.asg (.name 4) (.call 22 (.cons (.var 0) (.cons (.var 2) .nil)))) (.cons (.asg (.name 5) (.call 916 (.cons (.var 1) (.cons (.slc (.var 4) (.some (.neg (.lit (.int 1)))) .none) .nil)))) (.cons (.for (.name 6) (.e (.rev (.slc (.var 4) .none (.some (.neg (.lit (.int 1))))))) (.cons (.asg (.name 5) (.call 916 (.cons (.var 5) (.cons (.tup (.cons (.var 6) (.cons (.tup (.cons (.lit (.str "place")) (.cons (.lit (.str "up")) .nil))) .nil))) .nil)))) .nil)) (.cons (.ife (.cmp .ne (.var 5) (.call 916 (.cons (.var 1) (.cons (.var 4) .nil)))) (.cons (.ret (.lit (.bool false))) .nil) .nil) (.cons (.for (.name 7) (.rng1 (.bin .sub (.blt .len (.cons (.var 4) .nil)) (.lit (.int 1)))) (.cons (.asg (.name 8) (.idx (.idx (.var 4) (.var 7)) (.lit (.int 0)))) (.cons (.asg (.name 9) (.bin .add (.slc (.var 4) .none (.some (.var 7))) (.slc (.var 4) (.some (.bin .add (.var 7) (.lit (.int 1)))) .none))) (.cons (.asg (.name 10) (.comp (.blt .tuple (.cons (.comp (.idx (.var 12) (.idx (.var 6) (.lit (.int 0)))) (.name 6) (.e (.slc (.var 4) .none (.some (.var 7)))) .none) .nil)) (.name 12) (.e (.var 1)) .none)) (.cons (.asg (.name 11) (.or (.cmp .eq (.blt .len (.cons (.blt .set (.cons (.comp (.idx (.var 12) (.var 8)) (.name 12) (.e (.var 1)) .none) .nil)) .nil)) (.lit (.int 1))) (.cmp .eq (.blt .len (.cons (.blt .set (.cons (.var 10) .nil)) .nil)) (.blt .len (.cons (.var 1) .nil))))) (.cons (.ife (.and (.var 11) (.cmp .ne (.call 915 (.cons (.var 1) (.cons (.var 9) .nil))) (.call 915 (.cons (.var 1) (.cons (.var 4) .nil))))) (.cons (.ret (.lit (.bool false))) .nil) .nil) .nil)))))) .nil)))))) (.cons (.ret (.lit (.bool true))) .nil))))⟩
/-- law -/
def o923 : FD := ⟨1, 2, (.cons (.ret (.blt .all (.cons (.comp (.call 922 (.cons (.call 8 (.cons (.call 7 (.cons (.var 0) (.cons (.var 1) .nil))) .nil)) .nil)) (.name 1) (.rng1 (.blt .max2 (.cons (.lit (.int 2)) (.cons (.blt .min2 (.cons (.blt .len (.cons (.var 0) .nil)) (.cons (.lit (.int 6)) .nil))) .nil)))) .none) .nil))) .nil)⟩
end Own
namespace Ev
open PySem PySem.Spec PyProof.Rows L2 Own
theorem toTups_map : ∀ hs : List (List Int), toTups (hs.map fun h => .tuple (h.map PyData.int)) = some hs
  | [] => rfl
  | h :: hs => by
    have e := toInts_map (fun x : Int => x) h
    rw [List.map_id'] at e
    rw [List.map_cons, toTups, toTups_map hs, show toInts (h.map PyData.int) = some h from e]
theorem set_tups_s {hs : List (List Int)} (h : hs ≠ []) (hl : hs.length < 64) (s : Store) : bltD .set [.p (.list (hs.map fun h => .tuple (h.map PyData.int)))] s = .ok (.tset (onceT hs).length) s := by
  show (if isTup1 _ = true then setTup _ else setG _) s = _
  have e : isTup1 (hs.map fun h => PyData.tuple (h.map PyData.int)) = true := by
    cases hs with
    | nil => exact absurd rfl h
    | cons a b => rfl
  rw [e, if_pos rfl]
  unfold setTup
  rw [toTups_map]
  dsimp only
  rw [if_pos hl]
  rfl
theorem slc_to (ks : Ky) (u : Bool) {i : Nat} (h : i ≤ ks.length) : slcP (ordP ks u) none (some (i : Int)) = some (.tuple ((ks.take i).map keyP)) := by
  show some (PyData.tuple (cutL (ks.map keyP ++ [plP u]) none (some (i : Int)))) = _
  unfold cutL
  rw [HT.sIx_none, HT.sIx_nat, List.drop_zero, Nat.sub_zero, Nat.min_eq_left (by simp; omega), List.take_append_of_le_length (by simp; omega), List.map_take]
theorem slc_from (ks : Ky) (u : Bool) {i : Nat} (h : i ≤ ks.length) : slcP (ordP ks u) (some (i : Int)) none = some (.tuple ((ks.drop i).map keyP ++ [plP u])) := by
  show some (PyData.tuple (cutL (ks.map keyP ++ [plP u]) (some (i : Int)) none)) = _
  unfold cutL
  rw [HT.sIx_none, HT.sIx_nat, Nat.min_eq_left (by simp; omega), List.drop_append_of_le_length (by simp; omega), List.map_drop, List.take_of_length_le (by simp; omega)]
section
variable {T : Tab} {L : Nat → Bool}
structure H10 (T : Tab) (L : Nat → Bool) : Prop where
  pl : HPool T L
  by_ : HBy T
  t10 : T 10 = some o10
  t22 : T 22 = some o22
  t916 : T 916 = some o916
  t922 : T 922 = some o922
  t923 : T 923 = some o923
def body10a : Ss := (.cons (.asg (.name 5) (.call 916 (.cons (.var 5) (.cons (.tup (.cons (.var 6) (.cons (.tup (.cons (.lit (.str "place")) (.cons (.lit (.str "up")) .nil))) .nil))) .nil)))) .nil)
def body10b : Ss := (.cons (.asg (.name 8) (.idx (.idx (.var 4) (.var 7)) (.lit (.int 0)))) (.cons (.asg (.name 9) (.bin .add (.slc (.var 4) .none (.some (.var 7))) (.slc (.var 4) (.some (.bin .add (.var 7) (.lit (.int 1)))) .none))) (.cons (.asg (.name 10) (.comp (.blt .tuple (.cons (.comp (.idx (.var 12) (.idx (.var 6) (.lit (.int 0)))) (.name 6) (.e (.slc (.var 4) .none (.some (.var 7)))) .none) .nil)) (.name 12) (.e (.var 1)) .none)) (.cons (.asg (.name 11) (.or (.cmp .eq (.blt .len (.cons (.blt .set (.cons (.comp (.idx (.var 12) (.var 8)) (.name 12) (.e (.var 1)) .none) .nil)) .nil)) (.lit (.int 1))) (.cmp .eq (.blt .len (.cons (.blt .set (.cons (.var 10) .nil)) .nil)) (.blt .len (.cons (.var 1) .nil))))) (.cons (.ife (.and (.var 11) (.cmp .ne (.call 915 (.cons (.var 1) (.cons (.var 9) .nil))) (.call 915 (.cons (.var 1) (.cons (.var 4) .nil))))) (.cons (.ret (.lit (.bool false))) .nil) .nil) .nil)))))
structure A10I (t : Tb) (ks : Ky) (u : Bool) (s : Store) (x0 x2 x3 x4 : Option D) (y7 y8 y9 y10 y11 y12 : Option D) (xs : List P) (σ : Env) (st : Store) : Prop where
  ex : ∃ (rest dn : Ky) (a : Option D), ks = rest ++ dn ∧ xs = rest.reverse.map keyP ∧ st = s ∧ σ = [x0, some (.p (tabP t)), x2, x3, x4, some (.p (tabP (rowsAt t (placesOf t (dn, u))))), a, y7, y8, y9, y10, y11, y12]
theorem loop10a (H : H10 T L) (n bb : Nat) {c : Nat} {t : Tb} (ht : Tk c t) {ks : Ky} {u : Bool} (hk : KeysOk 4 ks) (hc : ∀ k, k ∈ ks → k.1 < c) (s : Store) (x0 x2 x3 x4 a y7 y8 y9 y10 y11 y12 : Option D) :
    (forGo (turnS (callF T L (n + 7)) bb (.name 6) body10a) (ks.reverse.map keyP) [x0, some (.p (tabP t)), x2, x3, x4, some (.p (tabP (rowsAt t (placesOf t ([], u))))), a, y7, y8, y9, y10, y11, y12] s).sat
      (A10I t ks u s x0 x2 x3 x4 y7 y8 y9 y10 y11 y12 []) (fun _ _ => False) := by
  refine for_sat (R := fun _ _ => False) (A10I t ks u s x0 x2 x3 x4 y7 y8 y9 y10 y11 y12) ⟨ks, [], a, by simp, rfl, rfl, rfl⟩ ?_
  rintro x r σ st ⟨rest, dn, a, hd, hx, rfl, rfl⟩
  rcases List.eq_nil_or_concat rest with rfl | ⟨rest, k, rfl⟩
  · simp at hx
  · rw [List.concat_eq_append] at hd hx
    rw [List.reverse_append] at hx
    simp only [List.reverse_cons, List.reverse_nil, List.nil_append, List.cons_append, List.map_cons, List.cons.injEq] at hx
    obtain ⟨rfl, rfl⟩ := hx
    have km : k ∈ ks := by rw [hd]; simp
    have sb := sorted_by (L := L) H.by_ H.t916 n (ht.rows (dn, u)) (ks := [k]) (u := true) ⟨by simp, fun q hq => by rw [List.mem_singleton.mp hq]; exact hk.rng k km⟩ (fun q hq => by rw [List.mem_singleton.mp hq]; exact hc k km) (by simp)
    rw [key_more] at sb
    have eo : ordP [k] true = .tuple [keyP k, .tuple [.str "place", .str "up"]] := rfl
    rw [eo] at sb
    have fin : A10I t ks u st x0 x2 x3 x4 y7 y8 y9 y10 y11 y12 (rest.reverse.map keyP) [x0, some (.p (tabP t)), x2, x3, x4, some (.p (tabP (rowsAt t (placesOf t (k :: dn, u))))), some (.p (keyP k)), y7, y8, y9, y10, y11, y12] st :=
      ⟨rest, k :: dn, some (.p (keyP k)), by rw [hd]; simp, rfl, rfl, rfl⟩
    generalize tabP (rowsAt t (placesOf t (k :: dn, u))) = R2 at *
    generalize tabP (rowsAt t (placesOf t (dn, u))) = R1 at *
    generalize keyP k = kp at *
    generalize rest.reverse.map keyP = RR at *
    generalize tabP t = X at *
    simp -implicitDefEqProofs [turnS_app, body10a, sb]
    exact fin
theorem turn10b (H : H10 T L) (n bb : Nat) {c : Nat} {t : Tb} (ht : Tk c t) {ks : Ky} {u : Bool} (hk : KeysOk 4 ks) (hc : ∀ k, k ∈ ks → k.1 < c) (hl : ks.length ≤ 4) {i : Nat} (hi : i < ks.length) (s : Store) (x0 x2 x3 x5 x6 x7 x8 x9 x10 x11 x12 : Option D) :
    (turnS (callF T L (n + 7)) bb (.name 7) body10b (.int (i : Int)) [x0, some (.p (tabP t)), x2, x3, some (.p (ordP ks u)), x5, x6, x7, x8, x9, x10, x11, x12] s).sat
      (fun σ st => ∃ (x7 x8 x9 x10 x11 : Option D), st = s ∧ σ = [x0, some (.p (tabP t)), x2, x3, some (.p (ordP ks u)), x5, x6, x7, x8, x9, x10, x11, x12]) (fun _ _ => False) := by
  obtain ⟨k, hkk⟩ : ∃ k, k = ks[i] := ⟨_, rfl⟩
  have sp : ks = ks.take i ++ k :: ks.drop (i + 1) := by
    rw [hkk, List.getElem_cons_drop, List.take_append_drop]
  have km : k ∈ ks := by rw [hkk]; exact List.getElem_mem hi
  have k0 : 0 ≤ k.1 := (hk.rng k km).1
  have kc : k.1 < c := hc k km
  have sub : ∀ q, q ∈ ks.take i ++ ks.drop (i + 1) → q ∈ ks := fun q hq => by
    rcases List.mem_append.mp hq with h | h
    · exact List.mem_of_mem_take h
    · exact List.mem_of_mem_drop h
  have kl : KeysOk 4 (ks.take i ++ ks.drop (i + 1)) := ⟨by
    have h := hk.nod
    rw [sp, List.map_append, List.map_cons] at h
    rw [List.map_append]
    exact h.sublist (List.Sublist.append (List.Sublist.refl _) (List.sublist_cons_self _ _)), fun q hq => hk.rng q (sub q hq)⟩
  have ll : (ks.take i ++ ks.drop (i + 1)).length ≤ 4 := by simp; omega
  have p1 := places_by (L := L) H.by_ (n + 1) ht (u := u) hk hc hl
  have p2 := places_by (L := L) H.by_ (n + 1) ht (u := u) kl (fun q hq => hc q (sub q hq)) ll
  have i1 : idxP (ordP ks u) (.int (i : Int)) = some (keyP k) := by
    show L2.atI (ks.map keyP ++ [plP u]) (i : Int) = _
    rw [atI_nat, List.getElem?_append_left (by simpa using hi), List.getElem?_map, List.getElem?_eq_getElem hi, hkk]
    rfl
  have i2 : idxP (keyP k) (.int 0) = some (.int k.1) := rfl
  have s1 := slc_to ks u (i := i) (by omega)
  have s2 := slc_from ks u (i := i + 1) (by omega)
  rw [show ((i + 1 : Nat) : Int) = (i : Int) + 1 by omega] at s2
  have a1 : binP .add (.tuple ((ks.take i).map keyP)) (.tuple ((ks.drop (i + 1)).map keyP ++ [plP u])) = some (ordP (ks.take i ++ ks.drop (i + 1)) u) := by
    rw [bin_addt, if_pos (by simp; omega)]
    unfold ordP
    rw [List.map_append, List.append_assoc]
  have it1 : items (.tuple ((ks.take i).map keyP)) = some ((ks.take i).map keyP) := rfl
  have itt : items (tabP t) = some (t.map rowP) := rfl
  have rl : ∀ r, r ∈ t → r.length = c := ht.row
  have ci := fun (r : List Int) (hr : r ∈ t) (z0 z1 z2 z3 z4 z5 z6 z7 z8 z9 z10 z11 : Option D) (s : Store) => comp_mapE (f := turnE (callF T L (n + 7)) bb [z0, z1, z2, z3, z4, z5, z6, z7, z8, z9, z10, z11, some (.p (rowP r))] (.idx (.var 12) (.idx (.var 6) (.lit (.int 0)))) (.name 6) .none) keyP (fun k => PyData.int (r.getD k.1.toNat 0)) (s := s) (cs := ks.take i) (fun q hq => by
    have qm := List.mem_of_mem_take hq
    have e1 : idxP (keyP q) (.int 0) = some (.int q.1) := rfl
    have e2 := row_idx (r := r) (hk.rng q qm).1 (by rw [rl r hr]; exact hc q qm)
    generalize keyP q = kq at *
    generalize rowP r = rr at *
    simp -implicitDefEqProofs [turnE_app, e1, e2]) (by simp; omega)
  have ch := fun (z0 z2 z3 z5 z6 z8 z9 z10 z11 z12 : Option D) (s : Store) => comp_mapE (f := turnE (callF T L (n + 7)) bb [z0, some (.p (tabP t)), z2, z3, some (.p (ordP ks u)), z5, z6, some (.p (.int (i : Int))), z8, z9, z10, z11, z12] (.blt .tuple (.cons (.comp (.idx (.var 12) (.idx (.var 6) (.lit (.int 0)))) (.name 6) (.e (.slc (.var 4) .none (.some (.var 7)))) .none) .nil)) (.name 12) .none) rowP (fun r => .tuple ((ks.take i).map fun k => PyData.int (r.getD k.1.toNat 0))) (s := s) (cs := t) (fun r hr => by
    have ci := ci r hr
    generalize (ks.take i).map (fun k => PyData.int (r.getD k.1.toNat 0)) = RI at *
    generalize (ks.take i).map keyP = TK at *
    generalize rowP r = rr at *
    generalize tabP t = X at *
    generalize ordP ks u = O at *
    generalize ((i : Nat) : Int) = ii at *
    simp -implicitDefEqProofs [turnE_app, s1, it1, ci]) (by have := ht.le; omega)
  have cs := fun (z0 z1 z2 z3 z4 z5 z6 z7 z9 z10 z11 z12 : Option D) (s : Store) => comp_mapE (f := turnE (callF T L (n + 7)) bb [z0, z1, z2, z3, z4, z5, z6, z7, some (.p (.int k.1)), z9, z10, z11, z12] (.idx (.var 12) (.var 8)) (.name 12) .none) rowP (fun r => PyData.int (r.getD k.1.toNat 0)) (s := s) (cs := t) (fun r hr => by
    have e2 := row_idx (r := r) k0 (by rw [rl r hr]; exact kc)
    generalize rowP r = rr at *
    simp -implicitDefEqProofs [turnE_app, e2]) (by have := ht.le; omega)
  have eh : (t.map fun r => PyData.tuple ((ks.take i).map fun k => PyData.int (r.getD k.1.toNat 0))) = (t.map fun r => headOf r (ks.take i)).map fun h => .tuple (h.map PyData.int) := by
    rw [List.map_map]
    apply List.map_congr_left
    intro r _
    show _ = PyData.tuple ((headOf r (ks.take i)).map PyData.int)
    unfold headOf
    rw [List.map_map]
    rfl
  have es : (t.map fun r => PyData.int (r.getD k.1.toNat 0)) = (t.map fun r => r.getD k.1.toNat 0).map PyData.int := by
    rw [List.map_map]
    rfl
  have le := ht.le
  have ne := ht.ne
  have sh := set_tups_s (hs := t.map fun r => headOf r (ks.take i)) (by intro z; rw [List.map_eq_nil_iff] at z; rw [z] at ne; simp at ne) (by rw [List.length_map]; omega)
  have ss := fun s => (set_si (t.map fun r => r.getD k.1.toNat 0) s).trans (setG_i (by rw [List.length_map]; omega) s)
  rw [← eh] at sh
  rw [← es] at ss
  have lt := len_tab t
  have w1 : (onceI (t.map fun r => r.getD k.1.toNat 0)).length = 1 → placesOf t (ks.take i ++ ks.drop (i + 1), u) = placesOf t (ks, u) := fun h => by
    have := idle_one (t := t) (k := k) (ks1 := ks.take i) (ks2 := ks.drop (i + 1)) (u := u) h
    rw [← sp] at this
    exact this
  have w2 : (onceT (t.map fun r => headOf r (ks.take i))).length = t.length → placesOf t (ks.take i ++ ks.drop (i + 1), u) = placesOf t (ks, u) := fun h => by
    have := idle_two (t := t) (ks1 := ks.take i) (ks2 := ks.drop (i + 1)) (ks3 := k :: ks.drop (i + 1)) (u := u) h
    rw [← sp] at this
    exact this
  have q1 := eq_ints ((onceI (t.map fun r => r.getD k.1.toNat 0)).length : Int) 1
  have q2 := eq_ints ((onceT (t.map fun r => headOf r (ks.take i))).length : Int) (t.length : Int)
  have ep := eq_pls (placesOf t (ks, u))
  clear eh es ci it1 rl sub kl ll
  generalize onceI (t.map fun r => r.getD k.1.toNat 0) = OI at *
  generalize (onceT (t.map fun r => headOf r (ks.take i))).length = l2 at *
  generalize (t.map fun r => PyData.tuple ((ks.take i).map fun k => PyData.int (r.getD k.1.toNat 0))) = HS at *
  generalize (t.map fun r => PyData.int (r.getD k.1.toNat 0)) = VS at *
  clear q1 q2
  by_cases h1 : OI.length = 1
  · have q1 : ((OI.length : Nat) : Int) = 1 := by omega
    rw [w1 h1] at p2
    clear w1 w2 h1
    generalize plsP (placesOf t (ks, u)) = PP at *
    generalize (ks.take i).map keyP = TK at *
    generalize (ks.drop (i + 1)).map keyP ++ [plP u] = DK at *
    generalize ordP (ks.take i ++ ks.drop (i + 1)) u = O2 at *
    generalize ordP ks u = O at *
    generalize keyP k = kp at *
    generalize t.map rowP = TM at *
    generalize tabP t = X at *
    generalize ((i : Nat) : Int) = ii at *
    generalize k.1 = kk at *
    simp -implicitDefEqProofs [turnS_app, body10b, i1, i2, s1, s2, a1, itt, ch, cs, ss, q1, p1, p2, ep]
  · have q1 : ¬ ((OI.length : Nat) : Int) = 1 := by omega
    by_cases h2 : l2 = t.length
    · have q2 : ((l2 : Nat) : Int) = ((t.length : Nat) : Int) := by omega
      rw [w2 h2] at p2
      clear w1 w2 h1 h2
      generalize plsP (placesOf t (ks, u)) = PP at *
      generalize (ks.take i).map keyP = TK at *
      generalize (ks.drop (i + 1)).map keyP ++ [plP u] = DK at *
      generalize ordP (ks.take i ++ ks.drop (i + 1)) u = O2 at *
      generalize ordP ks u = O at *
      generalize keyP k = kp at *
      generalize t.map rowP = TM at *
      generalize tabP t = X at *
      generalize ((t.length : Nat) : Int) = tl at *
      generalize ((i : Nat) : Int) = ii at *
      generalize k.1 = kk at *
      simp -implicitDefEqProofs [turnS_app, body10b, i1, i2, s1, s2, a1, itt, ch, cs, ss, sh, lt, q1, q2, p1, p2, ep]
    · have q2 : ¬ ((l2 : Nat) : Int) = ((t.length : Nat) : Int) := by omega
      clear w1 w2 h1 h2
      generalize (ks.take i).map keyP = TK at *
      generalize (ks.drop (i + 1)).map keyP ++ [plP u] = DK at *
      generalize ordP (ks.take i ++ ks.drop (i + 1)) u = O2 at *
      generalize ordP ks u = O at *
      generalize keyP k = kp at *
      generalize t.map rowP = TM at *
      generalize tabP t = X at *
      generalize ((t.length : Nat) : Int) = tl at *
      generalize ((i : Nat) : Int) = ii at *
      generalize k.1 = kk at *
      simp -implicitDefEqProofs [turnS_app, body10b, i1, i2, s1, s2, a1, itt, ch, cs, ss, sh, lt, q1, q2]
structure B10I (t : Tb) (ks : Ky) (u : Bool) (s : Store) (x0 x2 x3 x5 x6 x12 : Option D) (xs : List P) (σ : Env) (st : Store) : Prop where
  al : ∀ p, p ∈ xs → ∃ j : Nat, p = .int (j : Int) ∧ j < ks.length
  ex : ∃ (x7 x8 x9 x10 x11 : Option D), st = s ∧ σ = [x0, some (.p (tabP t)), x2, x3, some (.p (ordP ks u)), x5, x6, x7, x8, x9, x10, x11, x12]
theorem loop10b (H : H10 T L) (n bb : Nat) {c : Nat} {t : Tb} (ht : Tk c t) {ks : Ky} {u : Bool} (hk : KeysOk 4 ks) (hc : ∀ k, k ∈ ks → k.1 < c) (hl : ks.length ≤ 4) (s : Store) (x0 x2 x3 x5 x6 x7 x8 x9 x10 x11 x12 : Option D) :
    (forGo (turnS (callF T L (n + 7)) bb (.name 7) body10b) (rngI 0 ks.length) [x0, some (.p (tabP t)), x2, x3, some (.p (ordP ks u)), x5, x6, x7, x8, x9, x10, x11, x12] s).sat
      (B10I t ks u s x0 x2 x3 x5 x6 x12 []) (fun _ _ => False) := by
  refine for_sat (R := fun _ _ => False) (B10I t ks u s x0 x2 x3 x5 x6 x12) ⟨fun p hp => ?_, x7, x8, x9, x10, x11, rfl, rfl⟩ ?_
  · obtain ⟨j, hj, rfl⟩ := List.mem_map.mp hp
    exact ⟨j, by rw [Int.zero_add], List.mem_range.mp hj⟩
  · rintro x r σ st ⟨al, x7, x8, x9, x10, x11, rfl, rfl⟩
    obtain ⟨j, rfl, hj⟩ := al x List.mem_cons_self
    refine (turn10b H n bb ht hk hc hl hj st x0 x2 x3 x5 x6 x7 x8 x9 x10 x11 x12).imp ?_ fun _ _ h => h
    rintro σ st' ⟨y7, y8, y9, y10, y11, rfl, rfl⟩
    exact ⟨fun p hp => al p (List.mem_cons_of_mem _ hp), y7, y8, y9, y10, y11, rfl, rfl⟩
structure R10I (s : Store) (i : Nat) (t : Tb) (k : Int) (xs : List P) (σ : Env) (st : Store) : Prop where
  ex : ∃ (a b c d e f g h l m : Option D), Drawn i s st ∧ σ = [some (.loc i), some (.p (tabP t)), some (.p (.int k)), a, b, c, d, e, f, g, h, l, m]
theorem law_right (H : H10 T L) (n : Nat) {s : Store} {i : Nat} (h : PoolOk s i) : (callF T L (n + 8) 922 [.loc i] s).sat fun d _ => d = .p (.bool true) := by
  rw [callF_app H.t922 _ _ rfl]
  have hb : o922.body = (.cons (.asg (.name 1) (.call 10 (.cons (.var 0) (.cons (.idx (.lst (.cons (.lit (.int 30)) (.cons (.lit (.int 8)) .nil))) (.blt .int (.cons (.cmp .gt (.call 9 (.cons (.var 0) (.cons (.lit (.int 8)) .nil))) (.lit (.int 0))) .nil))) (.cons (.lit (.int 5)) .nil))))) (.cons (.asg (.name 2) (.blt .min2 (.cons (.lit (.int 4)) (.cons (.blt .len (.cons (.idx (.var 1) (.lit (.int 0))) .nil)) .nil)))) (.cons (.for (.name 3) (.rng1 (.lit (.int 4))) (.cons (.asg (.name 4) (.call 22 (.cons (.var 0) (.cons (.var 2) .nil)))) (.cons (.asg (.name 5) (.call 916 (.cons (.var 1) (.cons (.slc (.var 4) (.some (.neg (.lit (.int 1)))) .none) .nil)))) (.cons (.for (.name 6) (.e (.rev (.slc (.var 4) .none (.some (.neg (.lit (.int 1))))))) body10a) (.cons (.ife (.cmp .ne (.var 5) (.call 916 (.cons (.var 1) (.cons (.var 4) .nil)))) (.cons (.ret (.lit (.bool false))) .nil) .nil) (.cons (.for (.name 7) (.rng1 (.bin .sub (.blt .len (.cons (.var 4) .nil)) (.lit (.int 1)))) body10b) .nil)))))) (.cons (.ret (.lit (.bool true))) .nil)))) := rfl
  rw [hb]
  clear hb
  have la := fun {c : Nat} {t : Tb} (ht : Tk c t) {ks : Ky} {u : Bool} hk hc => loop10a (L := L) H n s.length ht (ks := ks) (u := u) hk hc
  have lb := fun {c : Nat} {t : Tb} (ht : Tk c t) {ks : Ky} {u : Bool} hk hc hl => loop10b (L := L) H n s.length ht (ks := ks) (u := u) hk hc hl
  generalize body10a = BA at *
  generalize body10b = BB at *
  simp -implicitDefEqProofs [show o922.ns = 13 from rfl, show o922.ps = 1 from rfl]
  try simp only [sat_fin, sat_nxt, sat_st, sat_and]
  refine (draw H.pl (n + 6) h (m := 8) (by decide) (by decide)).imp ?_
  rintro _ s1 ⟨v, rfl, v0, v1, d1⟩
  obtain ⟨m, hm, m0, m1⟩ : ∃ m : Int, L2.atI [PyData.int 30, .int 8] (if 0 < v then 1 else 0) = some (.int m) ∧ 0 < m ∧ m ≤ 30 := by
    by_cases h3 : 0 < v
    · exact ⟨8, by rw [if_pos h3]; rfl, by decide, by decide⟩
    · exact ⟨30, by rw [if_neg h3]; rfl, by decide, by decide⟩
  simp [hm]
  try simp only [sat_fin, sat_nxt, sat_st, sat_and]
  refine (law_table H.pl H.t10 (n + 5) d1.ok (m := m) (w := 5) m0 m1 (by decide) (by decide)).imp ?_
  rintro _ s2 ⟨d2, ⟨t, c, rfl, rk, c1, c5, tm⟩⟩
  replace d2 := d1.trans d2
  have c5' : c ≤ 5 := by omega
  have ht := rk.tk c1 c5'
  have r4 := rngOk_ok (i := 4) (by decide) (by decide)
  obtain ⟨a0, xs0, ea, la0⟩ := tab_cons ht
  have i0 : idxP (tabP t) (.int 0) = some (.tuple a0) := by rw [ea]; exact atI_0 _ _
  have l0 : bltP .len [.tuple a0] = some (.int (c : Int)) := by
    have e : ∀ xs : List P, bltP .len [.tuple xs] = some (.int (xs.length : Int)) := fun _ => rfl
    rw [e, la0]
  have mc : ∃ k : Int, 0 < k ∧ k ≤ 4 ∧ k ≤ c ∧ bltP .min2 [.int 4, .int (c : Int)] = some (.int k) := by
    by_cases h4 : (c : Int) < 4
    · exact ⟨c, by omega, by omega, by omega, by rw [min2_i, if_pos h4]⟩
    · exact ⟨4, by omega, by omega, by omega, by rw [min2_i, if_neg h4]⟩
  obtain ⟨k, k1, k4, kc, mk⟩ := mc
  have step : ∀ x r σ st, R10I s i t k (x :: r) σ st → (turnS (callF T L (n + 7)) s.length (.name 3) (.cons (.asg (.name 4) (.call 22 (.cons (.var 0) (.cons (.var 2) .nil)))) (.cons (.asg (.name 5) (.call 916 (.cons (.var 1) (.cons (.slc (.var 4) (.some (.neg (.lit (.int 1)))) .none) .nil)))) (.cons (.for (.name 6) (.e (.rev (.slc (.var 4) .none (.some (.neg (.lit (.int 1))))))) BA) (.cons (.ife (.cmp .ne (.var 5) (.call 916 (.cons (.var 1) (.cons (.var 4) .nil)))) (.cons (.ret (.lit (.bool false))) .nil) .nil) (.cons (.for (.name 7) (.rng1 (.bin .sub (.blt .len (.cons (.var 4) .nil)) (.lit (.int 1)))) BB) .nil))))) x σ st).sat (R10I s i t k r) (fun _ _ => False) := by
    rintro x r σ st ⟨a, b, cc, d, e, f, g, h, l, z, d3, rfl⟩
    clear i0 l0 mk ea la0 hm r4
    generalize hX : tabP t = X at *
    simp -implicitDefEqProofs [turnS_app]
    try simp only [sat_fin, sat_nxt, sat_st, sat_and]
    refine (law_order H.pl H.t22 (n + 5) d3.ok (m := k) k1 k4).imp ?_
    rintro _ s4 ⟨d4, ⟨ks, u, rfl, ok, kl⟩⟩
    replace d4 := d3.trans d4
    subst hX
    have ok4 : KeysOk 4 ks := ⟨ok.nod, fun q hq => by have := ok.rng q hq; omega⟩
    have kc' : ∀ q, q ∈ ks → q.1 < (c : Int) := fun q hq => by have := (ok.rng q hq).2; omega
    have k0 : KeysOk 4 [] := ⟨by simp, fun q hq => by cases hq⟩
    have q0 := sorted_by (L := L) H.by_ H.t916 n ht (ks := []) (u := u) k0 (fun q hq => by cases hq) (by decide)
    have q1 := sorted_by (L := L) H.by_ H.t916 n ht (u := u) ok4 kc' kl
    have sk := slc_keys ks u
    have sl := slc_last ks u
    have rv : revP (.tuple (ks.map keyP)) = some (.tuple (ks.reverse.map keyP)) := by
      show some (PyData.tuple (ks.map keyP).reverse) = _
      rw [List.map_reverse]
    have itr : items (.tuple (ks.reverse.map keyP)) = some (ks.reverse.map keyP) := rfl
    have la := la ht (u := u) ok4 kc' s4
    have lb := lb ht (u := u) ok4 kc' kl s4
    have et := eq_tab (rowsAt t (placesOf t (ks, u)))
    have lo : bltP .len [ordP ks u] = some (.int ((ks.length : Int) + 1)) := by
      show some (PyData.int ((ks.map keyP ++ [plP u]).length : Int)) = _
      simp
    have rk := rngOk_ok (i := (ks.length : Int)) (by omega) (by omega)
    have lE : (ks.length : Int) + 1 - 1 = (ks.length : Int) := by omega
    have fin : ∀ (a b c d e f g h l m : Option D), R10I s i t k r [some (.loc i), some (.p (tabP t)), some (.p (.int k)), a, b, c, d, e, f, g, h, l, m] s4 := fun a b c d e f g h l m => ⟨a, b, c, d, e, f, g, h, l, m, d4, rfl⟩
    generalize hKR : ks.reverse.map keyP = KR at *
    generalize hX : tabP t = X at *
    generalize hO : ordP ks u = O at *
    generalize ordP [] u = O0 at *
    generalize ks.map keyP = KK at *
    simp -implicitDefEqProofs [sk, sl, rv, q0, itr]
    try simp only [sat_fin, sat_nxt, sat_st, sat_and]
    refine (la _ _ _ _ _ _ _ _ _ _ _).imp ?_ fun _ _ h => h.elim
    rintro σ st' ⟨rest, dn, a', hd, hx, rfl, rfl⟩
    cases rest with
    | cons q qs => simp at hx
    | nil =>
      rw [List.nil_append] at hd
      subst hd
      rw [hX]
      generalize tabP (rowsAt t (placesOf t (ks, u))) = Y at *
      generalize hkl : ((ks.length : Nat) : Int) = kn at *
      have kt : kn.toNat = ks.length := by omega
      simp -implicitDefEqProofs [q1, et, lo, lE, rk, kt]
      try simp only [sat_fin, sat_nxt, sat_st, sat_and]
      refine (lb _ _ _ _ _ _ _ _ _ _ _).imp ?_ fun _ _ h => h.elim
      rintro σ st'' ⟨_, x7, x8, x9, x10, x11, rfl, rfl⟩
      rw [hX]
      exact fin _ _ _ _ _ _ _ _ _ _
  have lp := for_sat (xs := rngI 0 4) (σ := [some (.loc i), some (.p (tabP t)), some (.p (.int k)), none, none, none, none, none, none, none, none, none, none]) (s := s2) (R10I s i t k) ⟨none, none, none, none, none, none, none, none, none, none, d2, rfl⟩ step
  clear step
  generalize hC : ((c : Nat) : Int) = C at *
  generalize hX : tabP t = X at *
  simp -implicitDefEqProofs [r4, i0, l0, mk]
  try simp only [sat_fin, sat_nxt, sat_st, sat_and]
  refine lp.imp ?_ fun _ _ h => h.elim
  intro σ st hI
  simp -implicitDefEqProofs
theorem law_ok (H : H10 T L) (n : Nat) (ns : List Int) : ∃ s, callF T L (n + 9) 923 [.scr ns] [] = .ok (.p (.bool true)) s := by
  suffices h : (callF T L (n + 9) 923 [.scr ns] []).sat fun d _ => d = .p (.bool true) by
    obtain ⟨d, s, e, rfl⟩ := sat_ex h
    exact ⟨s, e⟩
  have fa := fun (σ : Env) (h0 : σ[0]? = some (some (.scr ns))) (hv : 1 < σ.length) => end_all (L := L) H.pl (n := n + 7) (R := 922) (v := 1) (b := 0) (s := []) h0 (by decide) hv (end_LN (N := 6) h0 (by decide)) fun s i h => law_right H n h
  rw [callF_app H.t923 _ _ rfl]
  unfold allE minLN at fa
  generalize hE : (E.blt .all (.cons (.comp (.call 922 (.cons (.call 8 (.cons (.call 7 (.cons (.var 0) (.cons (.var 1) .nil))) .nil)) .nil)) (.name 1) (.rng1 (.blt .max2 (.cons (.lit (.int 2)) (.cons (.blt .min2 (.cons (.blt .len (.cons (.var 0) .nil)) (.cons (.lit (.int 6)) .nil))) .nil)))) .none) .nil)) = e9 at *
  simp -implicitDefEqProofs [o923, hE]
  try simp only [sat_fin, sat_nxt, sat_st, sat_and]
  refine (fa _ rfl (by simp)).imp ?_
  rintro _ s rfl
  simp
end
end Ev


end
section
namespace K10h
open PySem PySem.Spec PyProof.Rows L2 Ev Own
def top (i : Nat) : Stmt := PySem.Challenge.pw_sortcuts_k10_whole_key_by_key.main.body.getD i (.Pass ⟨0, 0, 0, 0⟩)
def tab : Tab := fun i => match i with
  | 0 => some o0
  | 16 => some o16
  | 1 => some o1
  | 2 => some o2
  | 4 => some o4
  | 5 => some o5
  | 17 => some o17
  | 18 => some o18
  | 19 => some o19
  | 20 => some o20
  | 28 => some o28
  | 33 => some o33
  | 34 => some o34
  | 35 => some o35
  | 914 => some o914
  | 915 => some o915
  | 916 => some o916
  | 7 => some o7
  | 8 => some o8
  | 9 => some o9
  | 10 => some o10
  | 22 => some o22
  | 922 => some o922
  | 923 => some o923
  | _ => none
def live : Nat → Bool := fun i => match i with
  | 8 => true
  | _ => false
def cf : Cf where
  fns := [(("is_value" : Str), 0), (("is_integer" : Str), 16), (("is_record" : Str), 1), (("first_fault_tables" : Str), 2), (("check_table" : Str), 4), (("columns_in" : Str), 5), (("is_direction" : Str), 17), (("is_key" : Str), 18), (("is_place_key" : Str), 19), (("first_fault_orders" : Str), 20), (("check_order" : Str), 28), (("order_columns" : Str), 33), (("check_below" : Str), 34), (("check_has" : Str), 35), (("places_in" : Str), 914), (("places_by" : Str), 915), (("sorted_by" : Str), 916), (("_law_cell" : Str), 7), (("_law_pool" : Str), 8), (("_law_draw" : Str), 9), (("_law_table" : Str), 10), (("_law_order" : Str), 22), (("_law_right" : Str), 922), (("law" : Str), 923)]
  kws := []
  cons := [(("MOST_COLUMNS" : Str), (.int 5)), (("MOST_KEYS" : Str), (.int 4)), (("MOST_RECORDS" : Str), (.int 30)), (("DOWN" : Str), (.str "down")), (("PLACE" : Str), (.str "place")), (("DIRECTIONS" : Str), (.tuple [(.str "up"), (.str "down")]))]
  free := [("abs" : Str), ("all" : Str), ("bool" : Str), ("divmod" : Str), ("enumerate" : Str), ("int" : Str), ("isinstance" : Str), ("len" : Str), ("list" : Str), ("max" : Str), ("min" : Str), ("range" : Str), ("set" : Str), ("sorted" : Str), ("str" : Str), ("tuple" : Str)]
def d0 : DI := ⟨⟨(("is_value" : Str), none), ("is_value" : Str), ("is_value" : Str), defArgs (top 10), defBody (top 10), defScope (top 10), [], []⟩, 0, [("value" : Str)], [("value" : Str)], o0⟩
def d16 : DI := ⟨⟨(("is_integer" : Str), none), ("is_integer" : Str), ("is_integer" : Str), defArgs (top 11), defBody (top 11), defScope (top 11), [], []⟩, 16, [("value" : Str), ("low" : Str), ("high" : Str)], [("value" : Str), ("low" : Str), ("high" : Str)], o16⟩
def d1 : DI := ⟨⟨(("is_record" : Str), none), ("is_record" : Str), ("is_record" : Str), defArgs (top 12), defBody (top 12), defScope (top 12), [], []⟩, 1, [("value" : Str), ("item" : Str)], [("value" : Str)], o1⟩
def d2 : DI := ⟨⟨(("first_fault_tables" : Str), none), ("first_fault" : Str), ("first_fault" : Str), defArgs (top 13), defBody (top 13), defScope (top 13), [], []⟩, 2, [("value" : Str), ("index" : Str), ("record" : Str)], [("value" : Str)], o2⟩
def d4 : DI := ⟨⟨(("check_table" : Str), none), ("check_table" : Str), ("check_table" : Str), defArgs (top 15), defBody (top 15), defScope (top 15), [], []⟩, 4, [("table" : Str), ("index" : Str)], [("table" : Str)], o4⟩
def d5 : DI := ⟨⟨(("columns_in" : Str), none), ("columns_in" : Str), ("columns_in" : Str), defArgs (top 16), defBody (top 16), defScope (top 16), [], []⟩, 5, [("table" : Str)], [("table" : Str)], o5⟩
def d17 : DI := ⟨⟨(("is_direction" : Str), none), ("is_direction" : Str), ("is_direction" : Str), defArgs (top 22), defBody (top 22), defScope (top 22), [], []⟩, 17, [("value" : Str)], [("value" : Str)], o17⟩
def d18 : DI := ⟨⟨(("is_key" : Str), none), ("is_key" : Str), ("is_key" : Str), defArgs (top 23), defBody (top 23), defScope (top 23), [], []⟩, 18, [("value" : Str)], [("value" : Str)], o18⟩
def d19 : DI := ⟨⟨(("is_place_key" : Str), none), ("is_place_key" : Str), ("is_place_key" : Str), defArgs (top 24), defBody (top 24), defScope (top 24), [], []⟩, 19, [("value" : Str)], [("value" : Str)], o19⟩
def d20 : DI := ⟨⟨(("first_fault_orders" : Str), none), ("first_fault" : Str), ("first_fault" : Str), defArgs (top 25), defBody (top 25), defScope (top 25), [], []⟩, 20, [("value" : Str), ("seen" : Str), ("last" : Str), ("index" : Str), ("key" : Str), ("keys" : Str)], [("value" : Str)], o20⟩
def d28 : DI := ⟨⟨(("check_order" : Str), none), ("check_order" : Str), ("check_order" : Str), defArgs (top 27), defBody (top 27), defScope (top 27), [], []⟩, 28, [("order" : Str), ("index" : Str)], [("order" : Str)], o28⟩
def d33 : DI := ⟨⟨(("order_columns" : Str), none), ("order_columns" : Str), ("order_columns" : Str), defArgs (top 28), defBody (top 28), defScope (top 28), [], []⟩, 33, [("order" : Str), ("column" : Str), ("direction" : Str)], [("order" : Str)], o33⟩
def d34 : DI := ⟨⟨(("check_below" : Str), none), ("check_below" : Str), ("check_below" : Str), defArgs (top 29), defBody (top 29), defScope (top 29), [], []⟩, 34, [("columns" : Str), ("wanted" : Str), ("column" : Str)], [("columns" : Str), ("wanted" : Str)], o34⟩
def d35 : DI := ⟨⟨(("check_has" : Str), none), ("check_has" : Str), ("check_has" : Str), defArgs (top 30), defBody (top 30), defScope (top 30), [], []⟩, 35, [("table" : Str), ("wanted" : Str)], [("table" : Str), ("wanted" : Str)], o35⟩
def d914 : DI := ⟨⟨(("places_in" : Str), none), ("places_in" : Str), ("places_in" : Str), defArgs (top 31), defBody (top 31), defScope (top 31), [], []⟩, 914, [("table" : Str), ("places" : Str), ("order" : Str), ("found" : Str), ("part" : Str), ("direction" : Str), ("values" : Str), ("value" : Str), ("place" : Str)], [("table" : Str), ("places" : Str), ("order" : Str)], o914⟩
def d915 : DI := ⟨⟨(("places_by" : Str), none), ("places_by" : Str), ("places_by" : Str), defArgs (top 32), defBody (top 32), defScope (top 32), [], []⟩, 915, [("table" : Str), ("order" : Str)], [("table" : Str), ("order" : Str)], o915⟩
def d916 : DI := ⟨⟨(("sorted_by" : Str), none), ("sorted_by" : Str), ("sorted_by" : Str), defArgs (top 33), defBody (top 33), defScope (top 33), [], []⟩, 916, [("table" : Str), ("order" : Str), ("place" : Str)], [("table" : Str), ("order" : Str)], o916⟩
def d7 : DI := ⟨⟨(("_law_cell" : Str), none), ("_law_cell" : Str), ("_law_cell" : Str), defArgs (top 35), defBody (top 35), defScope (top 35), [], []⟩, 7, [("_law_script" : Str), ("_law_k" : Str), ("_law_state" : Str), ("_law_figure" : Str)], [("_law_script" : Str), ("_law_k" : Str)], o7⟩
def d8 : DI := ⟨⟨(("_law_pool" : Str), none), ("_law_pool" : Str), ("_law_pool" : Str), defArgs (top 36), defBody (top 36), defScope (top 36), [], []⟩, 8, [("_law_figure" : Str), ("_law_digits" : Str)], [("_law_figure" : Str)], o8⟩
def d9 : DI := ⟨⟨(("_law_draw" : Str), none), ("_law_draw" : Str), ("_law_draw" : Str), defArgs (top 37), defBody (top 37), defScope (top 37), [], []⟩, 9, [("_law_pool_here" : Str), ("_law_most" : Str), ("_law_state" : Str), ("_law_digit" : Str)], [("_law_pool_here" : Str), ("_law_most" : Str)], o9⟩
def d10 : DI := ⟨⟨(("_law_table" : Str), none), ("_law_table" : Str), ("_law_table" : Str), defArgs (top 38), defBody (top 38), defScope (top 38), [], []⟩, 10, [("_law_pool_here" : Str), ("_law_most" : Str), ("_law_wide" : Str), ("_law_spread" : Str), ("_law_found" : Str), ("_law_turn" : Str), ("_law_sides" : Str), ("_law_many" : Str), ("_law_side" : Str)], [("_law_pool_here" : Str), ("_law_most" : Str), ("_law_wide" : Str)], o10⟩
def d22 : DI := ⟨⟨(("_law_order" : Str), none), ("_law_order" : Str), ("_law_order" : Str), defArgs (top 39), defBody (top 39), defScope (top 39), [], []⟩, 22, [("_law_pool_here" : Str), ("_law_most" : Str), ("_law_turn" : Str), ("_law_left" : Str), ("_law_found" : Str)], [("_law_pool_here" : Str), ("_law_most" : Str)], o22⟩
def d922 : DI := ⟨⟨(("_law_right" : Str), none), ("_law_right" : Str), ("_law_right" : Str), defArgs (top 40), defBody (top 40), defScope (top 40), [], []⟩, 922, [("_law_pool_here" : Str), ("_law_records" : Str), ("_law_wide" : Str), ("_law_turn" : Str), ("_law_keys" : Str), ("_law_rows" : Str), ("_law_pair" : Str), ("_law_at" : Str), ("_law_side" : Str), ("_law_less" : Str), ("_law_heads" : Str), ("_law_idle" : Str), ("_law_record" : Str)], [("_law_pool_here" : Str)], o922⟩
def d923 : DI := ⟨⟨(("law" : Str), none), ("law" : Str), ("law" : Str), defArgs (top 41), defBody (top 41), defScope (top 41), [], []⟩, 923, [("_law_script" : Str), ("_law_k" : Str)], [("_law_script" : Str)], o923⟩
def dis : List DI := [d0, d16, d1, d2, d4, d5, d17, d18, d19, d20, d28, d33, d34, d35, d914, d915, d916, d7, d8, d9, d10, d22, d922, d923]
def li : LI := ⟨cf, dis, tab, live, 400⟩
def facts : List He.Fa := [.glo ("is_value" : Str), .glo ("is_integer" : Str), .glo ("is_record" : Str), .glo ("first_fault_tables" : Str), .glo ("check_table" : Str), .glo ("columns_in" : Str), .glo ("is_direction" : Str), .glo ("is_key" : Str), .glo ("is_place_key" : Str), .glo ("first_fault_orders" : Str), .glo ("check_order" : Str), .glo ("order_columns" : Str), .glo ("check_below" : Str), .glo ("check_has" : Str), .glo ("places_in" : Str), .glo ("places_by" : Str), .glo ("sorted_by" : Str), .glo ("_law_cell" : Str), .glo ("_law_pool" : Str), .glo ("_law_draw" : Str), .glo ("_law_table" : Str), .glo ("_law_order" : Str), .glo ("_law_right" : Str), .glo ("law" : Str), .free ("abs" : Str), .free ("all" : Str), .free ("bool" : Str), .free ("divmod" : Str), .free ("enumerate" : Str), .free ("int" : Str), .free ("isinstance" : Str), .free ("len" : Str), .free ("list" : Str), .free ("max" : Str), .free ("min" : Str), .free ("range" : Str), .free ("set" : Str), .free ("sorted" : Str), .free ("str" : Str), .free ("tuple" : Str)]
def exK (K : PySem.W.Frag) : Bool := li.c.cons.all (Ev.conB K)
theorem chk0 : okDI li d0 = true := by decide +kernel
theorem chk16 : okDI li d16 = true := by decide +kernel
theorem chk1 : okDI li d1 = true := by decide +kernel
theorem chk2 : okDI li d2 = true := by decide +kernel
theorem chk4 : okDI li d4 = true := by decide +kernel
theorem chk5 : okDI li d5 = true := by decide +kernel
theorem chk17 : okDI li d17 = true := by decide +kernel
theorem chk18 : okDI li d18 = true := by decide +kernel
theorem chk19 : okDI li d19 = true := by decide +kernel
theorem chk20 : okDI li d20 = true := by decide +kernel
theorem chk28 : okDI li d28 = true := by decide +kernel
theorem chk33 : okDI li d33 = true := by decide +kernel
theorem chk34 : okDI li d34 = true := by decide +kernel
theorem chk35 : okDI li d35 = true := by decide +kernel
theorem chk914 : okDI li d914 = true := by decide +kernel
theorem chk915 : okDI li d915 = true := by decide +kernel
theorem chk916 : okDI li d916 = true := by decide +kernel
theorem chk7 : okDI li d7 = true := by decide +kernel
theorem chk8 : okDI li d8 = true := by decide +kernel
theorem chk9 : okDI li d9 = true := by decide +kernel
theorem chk10 : okDI li d10 = true := by decide +kernel
theorem chk22 : okDI li d22 = true := by decide +kernel
theorem chk922 : okDI li d922 = true := by decide +kernel
theorem chk923 : okDI li d923 = true := by decide +kernel
theorem bnd0 : BindOk d0 := fun _ _ _ _ _ _ us hl => match us, hl with | [_], _ => rfl
theorem bnd16 : BindOk d16 := fun _ _ _ _ _ _ us hl => match us, hl with | [_, _, _], _ => rfl
theorem bnd1 : BindOk d1 := fun _ _ _ _ _ _ us hl => match us, hl with | [_], _ => rfl
theorem bnd2 : BindOk d2 := fun _ _ _ _ _ _ us hl => match us, hl with | [_], _ => rfl
theorem bnd4 : BindOk d4 := fun _ _ _ _ _ _ us hl => match us, hl with | [_], _ => rfl
theorem bnd5 : BindOk d5 := fun _ _ _ _ _ _ us hl => match us, hl with | [_], _ => rfl
theorem bnd17 : BindOk d17 := fun _ _ _ _ _ _ us hl => match us, hl with | [_], _ => rfl
theorem bnd18 : BindOk d18 := fun _ _ _ _ _ _ us hl => match us, hl with | [_], _ => rfl
theorem bnd19 : BindOk d19 := fun _ _ _ _ _ _ us hl => match us, hl with | [_], _ => rfl
theorem bnd20 : BindOk d20 := fun _ _ _ _ _ _ us hl => match us, hl with | [_], _ => rfl
theorem bnd28 : BindOk d28 := fun _ _ _ _ _ _ us hl => match us, hl with | [_], _ => rfl
theorem bnd33 : BindOk d33 := fun _ _ _ _ _ _ us hl => match us, hl with | [_], _ => rfl
theorem bnd34 : BindOk d34 := fun _ _ _ _ _ _ us hl => match us, hl with | [_, _], _ => rfl
theorem bnd35 : BindOk d35 := fun _ _ _ _ _ _ us hl => match us, hl with | [_, _], _ => rfl
theorem bnd914 : BindOk d914 := fun _ _ _ _ _ _ us hl => match us, hl with | [_, _, _], _ => rfl
theorem bnd915 : BindOk d915 := fun _ _ _ _ _ _ us hl => match us, hl with | [_, _], _ => rfl
theorem bnd916 : BindOk d916 := fun _ _ _ _ _ _ us hl => match us, hl with | [_, _], _ => rfl
theorem bnd7 : BindOk d7 := fun _ _ _ _ _ _ us hl => match us, hl with | [_, _], _ => rfl
theorem bnd8 : BindOk d8 := fun _ _ _ _ _ _ us hl => match us, hl with | [_], _ => rfl
theorem bnd9 : BindOk d9 := fun _ _ _ _ _ _ us hl => match us, hl with | [_, _], _ => rfl
theorem bnd10 : BindOk d10 := fun _ _ _ _ _ _ us hl => match us, hl with | [_, _, _], _ => rfl
theorem bnd22 : BindOk d22 := fun _ _ _ _ _ _ us hl => match us, hl with | [_, _], _ => rfl
theorem bnd922 : BindOk d922 := fun _ _ _ _ _ _ us hl => match us, hl with | [_], _ => rfl
theorem bnd923 : BindOk d923 := fun _ _ _ _ _ _ us hl => match us, hl with | [_], _ => rfl
theorem ok : LIOk li where
  defs := fun e he => by
    simp only [li, dis, List.mem_cons, List.not_mem_nil, or_false] at he
    rcases he with rfl | rfl | rfl | rfl | rfl | rfl | rfl | rfl | rfl | rfl | rfl | rfl | rfl | rfl | rfl | rfl | rfl | rfl | rfl | rfl | rfl | rfl | rfl | rfl
    · exact chk0
    · exact chk16
    · exact chk1
    · exact chk2
    · exact chk4
    · exact chk5
    · exact chk17
    · exact chk18
    · exact chk19
    · exact chk20
    · exact chk28
    · exact chk33
    · exact chk34
    · exact chk35
    · exact chk914
    · exact chk915
    · exact chk916
    · exact chk7
    · exact chk8
    · exact chk9
    · exact chk10
    · exact chk22
    · exact chk922
    · exact chk923
  tab := fun e he => by
    simp only [li, dis, List.mem_cons, List.not_mem_nil, or_false] at he
    rcases he with rfl | rfl | rfl | rfl | rfl | rfl | rfl | rfl | rfl | rfl | rfl | rfl | rfl | rfl | rfl | rfl | rfl | rfl | rfl | rfl | rfl | rfl | rfl | rfl <;> rfl
  fns := fun x f h => by
    have hm := PySem.mem_of_lookup h
    simp only [li, cf, List.mem_cons, List.not_mem_nil, or_false, Prod.mk.injEq] at hm
    rcases hm with ⟨rfl, rfl⟩ | ⟨rfl, rfl⟩ | ⟨rfl, rfl⟩ | ⟨rfl, rfl⟩ | ⟨rfl, rfl⟩ | ⟨rfl, rfl⟩ | ⟨rfl, rfl⟩ | ⟨rfl, rfl⟩ | ⟨rfl, rfl⟩ | ⟨rfl, rfl⟩ | ⟨rfl, rfl⟩ | ⟨rfl, rfl⟩ | ⟨rfl, rfl⟩ | ⟨rfl, rfl⟩ | ⟨rfl, rfl⟩ | ⟨rfl, rfl⟩ | ⟨rfl, rfl⟩ | ⟨rfl, rfl⟩ | ⟨rfl, rfl⟩ | ⟨rfl, rfl⟩ | ⟨rfl, rfl⟩ | ⟨rfl, rfl⟩ | ⟨rfl, rfl⟩ | ⟨rfl, rfl⟩
    · exact ⟨d0, by simp [li, dis], rfl, rfl⟩
    · exact ⟨d16, by simp [li, dis], rfl, rfl⟩
    · exact ⟨d1, by simp [li, dis], rfl, rfl⟩
    · exact ⟨d2, by simp [li, dis], rfl, rfl⟩
    · exact ⟨d4, by simp [li, dis], rfl, rfl⟩
    · exact ⟨d5, by simp [li, dis], rfl, rfl⟩
    · exact ⟨d17, by simp [li, dis], rfl, rfl⟩
    · exact ⟨d18, by simp [li, dis], rfl, rfl⟩
    · exact ⟨d19, by simp [li, dis], rfl, rfl⟩
    · exact ⟨d20, by simp [li, dis], rfl, rfl⟩
    · exact ⟨d28, by simp [li, dis], rfl, rfl⟩
    · exact ⟨d33, by simp [li, dis], rfl, rfl⟩
    · exact ⟨d34, by simp [li, dis], rfl, rfl⟩
    · exact ⟨d35, by simp [li, dis], rfl, rfl⟩
    · exact ⟨d914, by simp [li, dis], rfl, rfl⟩
    · exact ⟨d915, by simp [li, dis], rfl, rfl⟩
    · exact ⟨d916, by simp [li, dis], rfl, rfl⟩
    · exact ⟨d7, by simp [li, dis], rfl, rfl⟩
    · exact ⟨d8, by simp [li, dis], rfl, rfl⟩
    · exact ⟨d9, by simp [li, dis], rfl, rfl⟩
    · exact ⟨d10, by simp [li, dis], rfl, rfl⟩
    · exact ⟨d22, by simp [li, dis], rfl, rfl⟩
    · exact ⟨d922, by simp [li, dis], rfl, rfl⟩
    · exact ⟨d923, by simp [li, dis], rfl, rfl⟩
  nod := fun e he => by
    simp only [li, dis, List.mem_cons, List.not_mem_nil, or_false] at he
    rcases he with rfl | rfl | rfl | rfl | rfl | rfl | rfl | rfl | rfl | rfl | rfl | rfl | rfl | rfl | rfl | rfl | rfl | rfl | rfl | rfl | rfl | rfl | rfl | rfl <;> exact ⟨rfl, rfl⟩
  bind := fun e he => by
    simp only [li, dis, List.mem_cons, List.not_mem_nil, or_false] at he
    rcases he with rfl | rfl | rfl | rfl | rfl | rfl | rfl | rfl | rfl | rfl | rfl | rfl | rfl | rfl | rfl | rfl | rfl | rfl | rfl | rfl | rfl | rfl | rfl | rfl
    · exact bnd0
    · exact bnd16
    · exact bnd1
    · exact bnd2
    · exact bnd4
    · exact bnd5
    · exact bnd17
    · exact bnd18
    · exact bnd19
    · exact bnd20
    · exact bnd28
    · exact bnd33
    · exact bnd34
    · exact bnd35
    · exact bnd914
    · exact bnd915
    · exact bnd916
    · exact bnd7
    · exact bnd8
    · exact bnd9
    · exact bnd10
    · exact bnd22
    · exact bnd922
    · exact bnd923
  ids := by decide
  key := fun f ks n pm h => by
    simp only [li, cf, List.mem_cons, List.not_mem_nil, or_false, Prod.mk.injEq] at h
/-! ### the head -/
abbrev R : PySem.W.OpenRow := PySem.W.OpenLaw.row PySem.Challenge.rw_sortcuts_k10_whole_key_by_key
def fnL : List He.DefD := [d0.d, d16.d, d1.d, d2.d, d4.d, d5.d, d17.d, d18.d, d19.d, d20.d, d28.d, d33.d, d34.d, d35.d, d914.d, d915.d, d916.d, d7.d, d8.d, d9.d, d10.d, d22.d, d922.d, d923.d]
abbrev hk : PySem.W.Hook := Ev.hookT 4 facts fnL exK
def ob (s : PySem.W.SharedT) : He.AlD × Bool := Ev.obsTG 4 facts fnL exK (HandSHeadRun.getT s)
theorem ob_eq (s : PySem.W.SharedT) : ob s = hk.obs s.abs := Ev.obsTG_eq (HandSHeadRun.getT_eq s)
def loose : List Str := [("TableError" : Str), ("InvalidTable" : Str), ("InvalidOrder" : Str), ("FindError" : Str), ("MissingColumn" : Str), ("MOST_COLUMNS" : Str), ("MOST_KEYS" : Str), ("MOST_RECORDS" : Str), ("is_value" : Str), ("is_integer" : Str), ("is_record" : Str), ("first_fault" : Str), ("first_fault_tables" : Str), ("check_table" : Str), ("columns_in" : Str), ("UP" : Str), ("DOWN" : Str), ("PLACE" : Str), ("DIRECTIONS" : Str), ("is_direction" : Str), ("is_key" : Str), ("is_place_key" : Str), ("first_fault_orders" : Str), ("check_order" : Str), ("order_columns" : Str), ("check_below" : Str), ("check_has" : Str), ("places_in" : Str), ("places_by" : Str), ("sorted_by" : Str), ("_law_cell" : Str), ("_law_pool" : Str), ("_law_draw" : Str), ("_law_table" : Str), ("_law_order" : Str), ("_law_right" : Str)]
theorem run (w : World) : HandSHeadRun.RunEq R (PySem.W.view R.prog [41]) hk ob 4000 loose w := by
  intro os
  kernel_rfl
theorem hdef {K : PySem.W.Frag} {h : Heap} {mg : Str → Option Value} (KX : K.In h) (G : h.Ns mainGlobals mg) (c : He.SaysD facts fnL K) : ∀ e, e ∈ li.defs → (∃ fd, FunD K e.d.name e.d.qual e.d.params e.d.body e.d.scope (e.d.dvs K) (e.d.kws K) (He.fAd K e.d.at_) fd) ∧ mg e.d.at_.1 = some (.ref (He.fAd K e.d.at_)) := fun e he => by
  simp only [li, dis, List.mem_cons, List.not_mem_nil, or_false] at he
  rcases he with rfl | rfl | rfl | rfl | rfl | rfl | rfl | rfl | rfl | rfl | rfl | rfl | rfl | rfl | rfl | rfl | rfl | rfl | rfl | rfl | rfl | rfl | rfl | rfl
  · exact ⟨c.def_ 0 rfl, He.glo_ok KX G (c.fact 0 (f := .glo ("is_value" : Str)) rfl)⟩
  · exact ⟨c.def_ 1 rfl, He.glo_ok KX G (c.fact 1 (f := .glo ("is_integer" : Str)) rfl)⟩
  · exact ⟨c.def_ 2 rfl, He.glo_ok KX G (c.fact 2 (f := .glo ("is_record" : Str)) rfl)⟩
  · exact ⟨c.def_ 3 rfl, He.glo_ok KX G (c.fact 3 (f := .glo ("first_fault_tables" : Str)) rfl)⟩
  · exact ⟨c.def_ 4 rfl, He.glo_ok KX G (c.fact 4 (f := .glo ("check_table" : Str)) rfl)⟩
  · exact ⟨c.def_ 5 rfl, He.glo_ok KX G (c.fact 5 (f := .glo ("columns_in" : Str)) rfl)⟩
  · exact ⟨c.def_ 6 rfl, He.glo_ok KX G (c.fact 6 (f := .glo ("is_direction" : Str)) rfl)⟩
  · exact ⟨c.def_ 7 rfl, He.glo_ok KX G (c.fact 7 (f := .glo ("is_key" : Str)) rfl)⟩
  · exact ⟨c.def_ 8 rfl, He.glo_ok KX G (c.fact 8 (f := .glo ("is_place_key" : Str)) rfl)⟩
  · exact ⟨c.def_ 9 rfl, He.glo_ok KX G (c.fact 9 (f := .glo ("first_fault_orders" : Str)) rfl)⟩
  · exact ⟨c.def_ 10 rfl, He.glo_ok KX G (c.fact 10 (f := .glo ("check_order" : Str)) rfl)⟩
  · exact ⟨c.def_ 11 rfl, He.glo_ok KX G (c.fact 11 (f := .glo ("order_columns" : Str)) rfl)⟩
  · exact ⟨c.def_ 12 rfl, He.glo_ok KX G (c.fact 12 (f := .glo ("check_below" : Str)) rfl)⟩
  · exact ⟨c.def_ 13 rfl, He.glo_ok KX G (c.fact 13 (f := .glo ("check_has" : Str)) rfl)⟩
  · exact ⟨c.def_ 14 rfl, He.glo_ok KX G (c.fact 14 (f := .glo ("places_in" : Str)) rfl)⟩
  · exact ⟨c.def_ 15 rfl, He.glo_ok KX G (c.fact 15 (f := .glo ("places_by" : Str)) rfl)⟩
  · exact ⟨c.def_ 16 rfl, He.glo_ok KX G (c.fact 16 (f := .glo ("sorted_by" : Str)) rfl)⟩
  · exact ⟨c.def_ 17 rfl, He.glo_ok KX G (c.fact 17 (f := .glo ("_law_cell" : Str)) rfl)⟩
  · exact ⟨c.def_ 18 rfl, He.glo_ok KX G (c.fact 18 (f := .glo ("_law_pool" : Str)) rfl)⟩
  · exact ⟨c.def_ 19 rfl, He.glo_ok KX G (c.fact 19 (f := .glo ("_law_draw" : Str)) rfl)⟩
  · exact ⟨c.def_ 20 rfl, He.glo_ok KX G (c.fact 20 (f := .glo ("_law_table" : Str)) rfl)⟩
  · exact ⟨c.def_ 21 rfl, He.glo_ok KX G (c.fact 21 (f := .glo ("_law_order" : Str)) rfl)⟩
  · exact ⟨c.def_ 22 rfl, He.glo_ok KX G (c.fact 22 (f := .glo ("_law_right" : Str)) rfl)⟩
  · exact ⟨c.def_ 23 rfl, He.glo_ok KX G (c.fact 23 (f := .glo ("law" : Str)) rfl)⟩
theorem hcon {K : PySem.W.Frag} {h : Heap} {mg : Str → Option Value} {w : World} {pr : Program} (KX : K.In h) (G : h.Ns mainGlobals mg) (c : exK K = true) : ∀ x d, li.c.cons.lookup x = some d → ∃ v u, mg x = some u ∧ RelV v u ∧ ∀ H ex, Rp ⟨K, w, pr⟩ H ex v d := Ev.cons_ok KX G c
theorem hfree {K : PySem.W.Frag} {h : Heap} {mg : Str → Option Value} (KX : K.In h) (G : h.Ns mainGlobals mg) (c : He.SaysD facts fnL K) : ∀ x, li.c.free.contains x = true → mg x = none := fun x hx => by
  simp only [li, cf, List.contains_iff_mem, List.mem_cons, List.not_mem_nil, or_false] at hx
  rcases hx with rfl | rfl | rfl | rfl | rfl | rfl | rfl | rfl | rfl | rfl | rfl | rfl | rfl | rfl | rfl | rfl
  · exact He.free_ok KX G (c.fact 24 (f := .free ("abs" : Str)) rfl)
  · exact He.free_ok KX G (c.fact 25 (f := .free ("all" : Str)) rfl)
  · exact He.free_ok KX G (c.fact 26 (f := .free ("bool" : Str)) rfl)
  · exact He.free_ok KX G (c.fact 27 (f := .free ("divmod" : Str)) rfl)
  · exact He.free_ok KX G (c.fact 28 (f := .free ("enumerate" : Str)) rfl)
  · exact He.free_ok KX G (c.fact 29 (f := .free ("int" : Str)) rfl)
  · exact He.free_ok KX G (c.fact 30 (f := .free ("isinstance" : Str)) rfl)
  · exact He.free_ok KX G (c.fact 31 (f := .free ("len" : Str)) rfl)
  · exact He.free_ok KX G (c.fact 32 (f := .free ("list" : Str)) rfl)
  · exact He.free_ok KX G (c.fact 33 (f := .free ("max" : Str)) rfl)
  · exact He.free_ok KX G (c.fact 34 (f := .free ("min" : Str)) rfl)
  · exact He.free_ok KX G (c.fact 35 (f := .free ("range" : Str)) rfl)
  · exact He.free_ok KX G (c.fact 36 (f := .free ("set" : Str)) rfl)
  · exact He.free_ok KX G (c.fact 37 (f := .free ("sorted" : Str)) rfl)
  · exact He.free_ok KX G (c.fact 38 (f := .free ("str" : Str)) rfl)
  · exact He.free_ok KX G (c.fact 39 (f := .free ("tuple" : Str)) rfl)
end K10h
open PySem PySem.W PySem.Calls PyProof.Rows
theorem K10h.of_plain (plain : ∀ ns : List Int, ns.length ≤ 63 → ∃ s, Ev.callF K10h.li.T K10h.li.L 40 923 [.scr ns] [] = .ok (.p (.bool true)) s) : PySem.Challenge.rw_sortcuts_k10_whole_key_by_key.Holds := by
  w_on; o_law
  refine HandSHeadRun.head_any (r := OpenLaw.row PySem.Challenge.rw_sortcuts_k10_whole_key_by_key) (q := view (OpenLaw.row PySem.Challenge.rw_sortcuts_k10_whole_key_by_key).prog [41]) (H := K10h.hk) (ob := K10h.ob) (M := 4000) (loose := K10h.loose) (d := HandSHeadRun.topDef (OpenLaw.row PySem.Challenge.rw_sortcuts_k10_whole_key_by_key).prog 41) (kwd := []) K10h.ob_eq
    (by kernel_rfl) (fun s => by kernel_rfl) K10h.run (by kernel_rfl) (by kernel_rfl) (by kernel_rfl) (by rfl) (by first | assumption | decide +kernel) (by decide +kernel) ⟨rfl, rfl, rfl, rfl, rfl, by decide +kernel⟩ ?hw ?hc
  case hw => w_witness2
  case hc =>
    refine Ev.walkG (l := PySem.Challenge.rw_sortcuts_k10_whole_key_by_key) (n := 63) (k := 40) (x := "_law_script") rfl (by decide) (by kernel_rfl) ⟨rfl, by decide, by decide⟩ ?F
    intro w mg fa h Y G hmg0
    obtain ⟨K, KX, c, cx⟩ := Y
    have e0 : (HandSHeadRun.topDef (OpenLaw.row PySem.Challenge.rw_sortcuts_k10_whole_key_by_key).prog 41).name = ("law" : PySem.Str) := by kernel_rfl
    rw [e0] at hmg0
    have hl : K10h.d923 ∈ K10h.li.defs := by simp [K10h.li, K10h.dis]
    have ea := hmg0.symm.trans (K10h.hdef KX G c K10h.d923 hl).2
    cases ea
    obtain ⟨fd, b, F⟩ := Ev.law_fn (XR := Ev.noX) (pr := (PySem.Challenge.rw_sortcuts_k10_whole_key_by_key).prog) (w := w) K10h.ok (K10h.hdef KX G c) (K10h.hcon KX G cx) (K10h.hfree KX G c) hl (x := "_law_script") rfl 39
    refine ⟨K, fd, _, KX, b, fun H a ns hn q => ?_, fun g _ _ => F g⟩
    obtain ⟨s, e⟩ := plain ns hn
    exact Ev.law_sp q e
theorem PySem.Challenge.cw_sortcuts_k10_whole_key_by_key_holds : PySem.Challenge.rw_sortcuts_k10_whole_key_by_key.Holds :=
  K10h.of_plain fun ns _ => Ev.law_ok (T := K10h.tab) (L := K10h.live) ⟨⟨rfl, rfl, rfl, rfl⟩, ⟨⟨rfl, rfl, rfl, rfl, rfl⟩, ⟨rfl, rfl, rfl, rfl, rfl, rfl⟩, rfl, rfl, rfl, rfl, rfl, rfl⟩, rfl, rfl, rfl, rfl, rfl⟩ 31 ns

end
