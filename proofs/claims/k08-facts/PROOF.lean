import PyProof.Rows.All
import Wide.All
import OpenK.AllK
import Wide.FinOn
import HandS.ForMost
import HandS.ForExc
import HandS.Deep
import HandS.IsInst
import HandS.Wide
import HandS.TupAny
import HandS.More
import KE.KRevSl
import KE.KSortTupG
import HandS.Base
import HandS.List
import HandS.Style
import HandS.Conv
import HandS.SetFor
import HandS.SortInts
import HandS.SortKw
import PyProof.EqKinds
import KE.KDictCopyH
import KE.KDictOf
import KE.KDictKeyed
import KE.KDictPairs
import KE.SortData
import KE.SortKeyHeap
import HandS.Defaults
import HandS.TupMul
import KE.GoesMore
import HandS.Flow
import HandS.SortRule
import HandS.RaiseMore
import HandS.WordsDict
import HandS.CallLocal
import HandS.Iter
import HandS.TryOnly
import HandS.Zip
import HandS.TryMany
import HandS.RaiseFrom
import KE.KTryMore
import HandS.HeadHook1
import HandS.FStr
import PyProof.DictMoreH
import KE.GoesRaise
import HandS.HeadHook4
import HandS.Codes
import HandS.WordsExc
import HandS.Head0
import HandS.Head1
import HandS.Head2
import HandS.HeadEnd
import HandS.HeadHook2
import HandS.HeadHook3
import PySem.Challenge.RW_dipright_k08_facts_read_or_refused
set_option Elab.async false
set_option linter.all false
set_option maxRecDepth 100000
set_option maxHeartbeats 0
section
open PySem PySem.W PySem.Spec PyProof.Rows
theorem Pl.runSame (w : World) (os : OsState) : (HandSHeadRun.endF (HandSHeadRun.stepQ (HandSHeadRun.denQ HandSHeadRun.tabQ) (PySem.W.OpenLaw.row PySem.Challenge.rw_dipright_k08_facts_read_or_refused).prog (w.withFollow "special-get-raises" true)) 7100 (PySem.W.OpenLaw.row PySem.Challenge.rw_dipright_k08_facts_read_or_refused).prog (w.withFollow "special-get-raises" true) os) = some ((HandSHeadRun.endF (HandSHeadRun.stepQ (HandSHeadRun.denQ HandSHeadRun.tabQ) (PySem.W.OpenLaw.row PySem.Challenge.rw_dipright_k08_facts_read_or_refused).prog (w.withFollow "special-get-raises" false)) 7100 (PySem.W.OpenLaw.row PySem.Challenge.rw_dipright_k08_facts_read_or_refused).prog (w.withFollow "special-get-raises" false) os).getD ⟨.nil, 0, default, #[], {}, 0, os⟩) := by kernel_rfl
theorem Pl.law_open (h : (OpenLaw.row PySem.Challenge.rw_dipright_k08_facts_read_or_refused).wellSaid = true → (OpenLaw.row PySem.Challenge.rw_dipright_k08_facts_read_or_refused).Holds) : PySem.Challenge.rw_dipright_k08_facts_read_or_refused.Holds := by
  w_on; o_law
  exact h (by assumption)
theorem Pl.law_fine : (chainsOk (view (OpenLaw.row PySem.Challenge.rw_dipright_k08_facts_read_or_refused).prog [39]) && opensWell (OpenLaw.row PySem.Challenge.rw_dipright_k08_facts_read_or_refused).prog && (frees (OpenLaw.row PySem.Challenge.rw_dipright_k08_facts_read_or_refused).toRowW && (OpenLaw.row PySem.Challenge.rw_dipright_k08_facts_read_or_refused).within.isEmpty)) = true := by decide +kernel
theorem Pl.law_bare : (OpenLaw.row PySem.Challenge.rw_dipright_k08_facts_read_or_refused).prog.bare := ⟨rfl, rfl, rfl, rfl, rfl, by decide +kernel⟩
end
/-! The compact language and its interpreter. -/
namespace Pl
open PySem (Str PyData sizeLine)

abbrev Key := L2.Key
/-- a text by its codes -/
def txS (l : List Nat) : Str := ⟨l.toArray⟩
/-- values. lst, dct: a list, a dict that nobody changes any more; tpk, lsk, dck: a tuple, a list, a dict of the written part; ref: an object of the store; fn: a def -/
inductive D where
  | non | bl (b : Bool) | int (i : Int) | str (x : Str) | tup (ds : List D) | lst (ds : List D) | dct (ks : List Key) (ds : List D)
  | ref (a : Nat) | fn (f : Nat) | tpk (ds : List D) | lsk (ds : List D) | dck (ks : List Str) (ds : List D)
instance : Inhabited D := ⟨.non⟩
/-- a result: a value, or a new list, dict, dict with tuple keys that nobody holds -/
inductive R where
  | v (d : D) | l (ds : List D) | d (kvs : List (Key × D)) | t (kvs : List (List Key × D))
/-- an object of the store -/
inductive Ob where
  | lst (ds : List D) | dk (kvs : List (Key × D)) | dt (kvs : List (List Key × D)) | ins (c : Nat) (fs : List (Str × D)) | fz (kvs : List (Key × D))
/-- an object that may be changed -/
def Ob.live : Ob → Bool
  | .fz _ => false
  | _ => true
abbrev Sto := List Ob
/-- a slot: empty, a value, a list of the def's own that it changes -/
inductive Sl where
  | un | v (d : D) | own (ds : List D)
abbrev Loc := List Sl
inductive O (α : Type) where
  | ok (a : α) (S : Sto) | ex (k : Nat) (S : Sto) | no
def O.bind {α β : Type} (o : O α) (f : α → Sto → O β) : O β := match o with
  | .ok a S => f a S
  | .ex k S => .ex k S
  | .no => .no
inductive Flow where
  | next (r : Loc) | brk (r : Loc) | cont (r : Loc) | ret (r : R) | raise (k : Nat) (r : Loc)

inductive Bo where
  | add | sub | mul | mod | fdiv | pow
inductive Co where
  | eq | ne | lt | le | gt | ge | isN | notN | inn | nin
inductive Bi where
  | len | sorted | list | tuple | min2 | max2 | sum | all | any | int | str | abs | dict
inductive Tn where
  | int | bool | str | tup | lst
inductive Bm where
  | append | pop | index | insert | clear | count | split | join | find | get | get2 | popK | popI | setd
inductive G where
  | name (i : Nat) | tup (is : List Nat)
mutual
inductive E where
  | var (i : Nat) | brw (i : Nat) | int (i : Int) | str (x : Str) | bl (b : Bool) | non
  | gv (x : Str)
  | bin (op : Bo) (a b : E) | neg (a : E) | nt (a : E) | and (a b : E) | or (a b : E) | orv (a b : E)
  | cmp (op : Co) (a b : E) | chain (op op' : Co) (a b c : E) | ite (c a b : E)
  | tup (es : Es) | lst (es : Es) | dsp (ks : List Key) (es : Es) | dnT | box (a : E)
  | call (f : Nat) (es : Es) | cv (i : Nat) (es : Es) | mth (m : Str) (o : E) (es : Es) | mk (c : Nat) (es : Es)
  | bi (b : Bi) (es : Es) | isi (a : E) (ts : List Tn) | bm (m : Bm) (o : E) (es : Es)
  | fld (o : E) (f : Str) | ix (a i : E) | sl (a : E) | slA (a lo : E) | slB (a hi : E) | slAB (a lo hi : E) | rev (a : E)
  | lc (own : List Nat) (g : G) (it : It) (e : E) | lcI (own : List Nat) (g : G) (it : It) (c e : E)
  | fst (es : Es) | lck (i : Nat) (a : E) | srtk (f : Nat) (a : E) | lcx (own : List Nat) (g : G) (it : It) (e : E)
inductive Es where
  | nil | cons (e : E) (es : Es)
inductive It where
  | e (a : E) | rg1 (a : E) | rg2 (a b : E) | rg3 (a b : E) (c : Int) | en (a : E) | zp (a b : E) | rv (a : E) | rgd (a b : E)
end
mutual
inductive S where
  | asg (b : Bool) (g : G) (e : E) | own (b : Bool) (i : Nat) (e : E) | apn (b : Bool) (i : Nat) (e : E) | setO (b : Bool) (i : Nat) (k e : E) | frz (i : Nat)
  | asgIx (o i e : E) | asgF (o : E) (f : Str) (e : E) | drop (e : E) | ret (e : E) | retO (i : Nat) | retN
  | ite (c : E) (a b : Ss) | fr (b : Bool) (g : G) (it : It) (body : Ss) | whl (fuel : Nat) (c : E) (b : Ss)
  | rse (k : Nat) | trx (b : Ss) (j k : Nat) | tr (b : Ss) (hs : Hs) | pass | brk | cont
inductive Ss where
  | nil | cons (s : S) (ss : Ss)
inductive Hs where
  | nil | cons (j : Nat) (b : Ss) (hs : Hs) | two (i j : Nat) (b : Ss) (hs : Hs)
end
/-- a def: how many parameters, how many names, whether it leaves nothing new in the store, its body -/
structure Fd where
  np : Nat
  ns : Nat
  tr : Bool
  body : Ss
/-- the defs, the methods of the classes, the makers, the module's constants, which error is which -/
structure Pg where
  fn : Nat → Option Fd
  mt : Nat → Str → Option Nat
  ini : Nat → Option Nat
  gv : Str → Option D
  sub : Nat → Nat → Option Bool

/-! ### values -/
mutual
/-- a value without lists and dicts that somebody may change -/
def noL : D → Bool
  | .lst _ => false
  | .dct _ _ => false
  | .tup ds => noLs ds
  | .tpk ds => noLs ds
  | .lsk ds => noLs ds
  | _ => true
def noLs : List D → Bool
  | [] => true
  | d :: ds => noL d && noLs ds
end
mutual
/-- .. and without objects of the store -/
def noR : D → Bool
  | .ref _ => false
  | .tup ds => noRs ds
  | .tpk ds => noRs ds
  | .lsk ds => noRs ds
  | .lst ds => noRs ds
  | .dct _ ds => noRs ds
  | _ => true
def noRs : List D → Bool
  | [] => true
  | d :: ds => noR d && noRs ds
end
def toD : R → Option D
  | .v d => some d
  | .l ds => some (.lst ds)
  | .d kvs => some (.dct (kvs.map (·.1)) (kvs.map (·.2)))
  | .t _ => none
/-- what a list holds -/
def lsOf (S : Sto) : R → Option (List D)
  | .l ds => some ds
  | .v (.lsk ds) => some ds
  | .v (.lst ds) => some ds
  | .v (.ref a) => match S[a]? with
    | some (.lst ds) => some ds
    | _ => none
  | _ => none
/-- a list that isn't of the written part -/
def lmOf (S : Sto) : R → Option (List D)
  | .v (.lsk _) => none
  | x => lsOf S x
/-- a list, a tuple -/
def sqOf (S : Sto) : R → Option (List D)
  | .v (.tup ds) => some ds
  | .v (.tpk ds) => some ds
  | r => lsOf S r
/-- keys -/
def keyD : D → Option Key
  | .int i => some (.inl i)
  | .str x => some (.inr x)
  | _ => none
def keyDs : List D → Option (List Key)
  | [] => some []
  | d :: ds => match keyD d with
    | some k => (keyDs ds).map (k :: ·)
    | none => none
def kD : Key → D
  | .inl i => .int i
  | .inr x => .str x
/-- a dict's pairs; by tuples -/
def dkOf (S : Sto) : R → Option (List (Key × D))
  | .d kvs => some kvs
  | .v (.dct ks ds) => some (ks.zip ds)
  | .v (.ref a) => match S[a]? with
    | some (.dk kvs) => some kvs
    | some (.fz kvs) => some kvs
    | _ => none
  | _ => none
def dtOf (S : Sto) : R → Option (List (List Key × D))
  | .t kvs => some kvs
  | .v (.ref a) => match S[a]? with
    | some (.dt kvs) => some kvs
    | _ => none
  | _ => none
section
variable {κ : Type} [DecidableEq κ]
def getA (k : κ) : List (κ × D) → Option D
  | [] => none
  | (j, d) :: r => if j = k then some d else getA k r
def putA (k : κ) (v : D) : List (κ × D) → List (κ × D)
  | [] => [(k, v)]
  | (g, u) :: r => if g = k then (g, v) :: r else (g, u) :: putA k v r
def putM (k : κ) (v : D) (l : List (κ × D)) : List (κ × D) := if (l.any fun p => decide (p.1 = k)) = true then l.map (fun p => if p.1 = k then (p.1, v) else p) else l ++ [(k, v)]
def delA (k : κ) (l : List (κ × D)) : List (κ × D) := l.filter fun p => decide (p.1 ≠ k)
end
/-- what a dict holds at a key: none: it can't be asked -/
def dgR (S : Sto) (x y : R) : Option (Option D) := match x with
  | .v (.dck ks ds) => match y with
    | .v (.str z) => some (getA z (ks.zip ds))
    | _ => none
  | x => match dkOf S x with
    | some kvs => match y with
      | .v d => (keyD d).map fun k => getA k kvs
      | _ => none
    | none => match dtOf S x with
      | some kvs => match y with
        | .v (.tup ds) => (keyDs ds).map fun k => getA k kvs
        | _ => none
      | none => none
mutual
/-- a value as data -/
def pyD : D → Option PyData
  | .non => some .none
  | .bl b => some (.bool b)
  | .int i => some (.int i)
  | .str x => some (.str x)
  | .tup ds => (pyDs ds).map .tuple
  | .tpk ds => (pyDs ds).map .tuple
  | .lst ds => (pyDs ds).map .list
  | .lsk ds => (pyDs ds).map .list
  | _ => none
def pyDs : List D → Option (List PyData)
  | [] => some []
  | d :: ds => match pyD d with
    | some p => (pyDs ds).map (p :: ·)
    | none => none
end
def pyR (S : Sto) : R → Option PyData
  | .v (.ref a) => match S[a]? with
    | some (.lst ds) => (pyDs ds).map .list
    | _ => none
  | .v d => pyD d
  | .l ds => (pyDs ds).map .list
  | _ => none
def eqR (S : Sto) (x y : R) : Option Bool := match pyR S x, pyR S y with
  | some a, some b => if PySem.SeqAt.shaped a && PySem.SeqAt.shaped b then some (PyData.eqv a b) else none
  | _, _ => none
def mulOk (i j : Int) : Prop := L2.CMul i j ∨ L2.CMulW i j
instance (i j : Int) : Decidable (mulOk i j) := by unfold mulOk L2.CMul L2.CMulW; infer_instance
def binR (op : Bo) (S : Sto) (x y : R) : Option R := match op with
  | .add => match x, y with
    | .v (.int i), .v (.int j) => some (.v (.int (i + j)))
    | .v (.str a), .v (.str b) => if a.length + b.length ≤ sizeLine then some (.v (.str (a ++ b))) else none
    | .v (.tup a), .v (.tup b) => if a.length + b.length ≤ sizeLine then some (.v (.tup (a ++ b))) else none
    | x, y => match lmOf S x, lmOf S y with
      | some a, some b => if a.length + b.length ≤ sizeLine then some (.l (a ++ b)) else none
      | _, _ => none
  | .sub => match x, y with
    | .v (.int i), .v (.int j) => some (.v (.int (i - j)))
    | _, _ => none
  | .mul => match x, y with
    | .v (.int i), .v (.int j) => if mulOk i j then some (.v (.int (i * j))) else none
    | .v (.tup a), .v (.int k) => if a.length ≠ 0 ∧ -1000 ≤ k ∧ k ≤ 1000 ∧ a.length ≤ 1000 then some (.v (.tup (List.replicate k.toNat a).flatten)) else none
    | x, .v (.int k) => match lmOf S x with
      | some a => if -(2 ^ 63) ≤ k ∧ k < 2 ^ 63 ∧ a.length * k.toNat ≤ sizeLine then some (.l (List.replicate k.toNat a).flatten) else none
      | none => none
    | _, _ => none
  | .mod => match x, y with
    | .v (.int i), .v (.int j) => if 0 < j then some (.v (.int (i % j))) else none
    | _, _ => none
  | .fdiv => match x, y with
    | .v (.int i), .v (.int j) => if 0 < j ∧ j.natAbs.log2 < 9000 then some (.v (.int (i / j))) else none
    | _, _ => none
  | .pow => match x, y with
    | .v (.int i), .v (.int j) => if 0 ≤ j ∧ j ≤ 1000000 ∧ i.natAbs < 2 ^ 64 then some (.v (.int (i ^ j.toNat))) else none
    | _, _ => none
/-- x in a list, a tuple, a dict, one sign in a text -/
def inR (S : Sto) (x y : R) : Option Bool := match y with
  | .v (.str z) => match x with
    | .v (.str w) => match w.cps.toList with
      | [c] => some (decide (c ∈ z.cps.toList))
      | _ => none
    | _ => none
  | y => match sqOf S y with
    | some ds => match pyR S x, pyDs ds with
      | some a, some bs => if PySem.SeqAt.shaped a && PySem.SeqAt.shaped (.list bs) then some (bs.any fun z => PyData.eqv z a) else none
      | _, _ => none
    | none => (dgR S y x).map Option.isSome
def cmpR (op : Co) (S : Sto) (x y : R) : Option Bool := match op with
  | .eq => eqR S x y
  | .ne => (eqR S x y).map (!·)
  | .lt => match x, y with
    | .v (.int i), .v (.int j) => some (decide (i < j))
    | _, _ => none
  | .le => match x, y with
    | .v (.int i), .v (.int j) => some (decide (i ≤ j))
    | _, _ => none
  | .gt => match x, y with
    | .v (.int i), .v (.int j) => some (decide (j < i))
    | _, _ => none
  | .ge => match x, y with
    | .v (.int i), .v (.int j) => some (decide (j ≤ i))
    | _, _ => none
  | .isN => match y with
    | .v .non => match x with
      | .v .non => some true
      | _ => some false
    | _ => none
  | .notN => match y with
    | .v .non => match x with
      | .v .non => some false
      | _ => some true
    | _ => none
  | .inn => inR S x y
  | .nin => (inR S x y).map (!·)
def intsD : List D → Option (List Int)
  | [] => some []
  | .int i :: ds => (intsD ds).map (i :: ·)
  | _ => none
def boolsD : List D → Option (List Bool)
  | [] => some []
  | .bl i :: ds => (boolsD ds).map (i :: ·)
  | _ => none
def strsD : List D → Option (List Str)
  | [] => some []
  | .str i :: ds => (strsD ds).map (i :: ·)
  | _ => none
def sortI (is : List Int) : List Int := is.mergeSort (fun a b => decide (a ≤ b))
/-- pairs of numbers -/
def prsI : List D → Option (List (Int × Int))
  | [] => some []
  | .tup [.int i, .int j] :: ds => (prsI ds).map ((i, j) :: ·)
  | _ => none
def lexP (p q : Int × Int) : Bool := decide (p.1 < q.1 ∨ (p.1 = q.1 ∧ p.2 ≤ q.2))
def sortP (ps : List (Int × Int)) : List (Int × Int) := ps.mergeSort lexP
/-- texts -/
def leS (a b : Str) : Bool := !PySem.Spec.ltCps b.cps.toList a.cps.toList
def sortS (xs : List Str) : List Str := xs.mergeSort leS
def prD (p : Int × Int) : D := .tup [.int p.1, .int p.2]
def sortD (ds : List D) : Option (List D) := match intsD ds with
  | some is => some ((sortI is).map .int)
  | none => match prsI ds with
    | some ps => some ((sortP ps).map prD)
    | none => match strsD ds with
      | some xs => if xs.length < 64 then some ((sortS xs).map .str) else none
      | none => none
/-- whole numbers and None -/
def optsD : List D → Option (List (Option Int))
  | [] => some []
  | .int i :: ds => (optsD ds).map (some i :: ·)
  | .non :: ds => (optsD ds).map (none :: ·)
  | _ :: _ => none
/-- triples of whole numbers, in order -/
def le3 (p q : Int × Int × Int) : Bool := decide (p.1 < q.1 ∨ (p.1 = q.1 ∧ (p.2.1 < q.2.1 ∨ (p.2.1 = q.2.1 ∧ p.2.2 ≤ q.2.2))))
def sort3 (ts : List (Int × Int × Int)) : List (Int × Int × Int) := ts.mergeSort le3
def trD (t : Int × Int × Int) : D := .tup [.int t.1, .int t.2.1, .int t.2.2]
def triK : List Key → Option (Int × Int × Int)
  | [.inl x, .inl y, .inl z] => some (x, y, z)
  | _ => none
def trisK : List (List Key) → Option (List (Int × Int × Int))
  | [] => some []
  | k :: ks => match triK k with
    | some t => (trisK ks).map (t :: ·)
    | none => none
def intsK : List Key → Option (List Int)
  | [] => some []
  | .inl i :: ds => (intsK ds).map (i :: ·)
  | _ => none
/-- what is sorted: a list's items, a dict's keys -/
def srtOf (S : Sto) (x : R) : Option (List D) := match lsOf S x with
  | some ds => sortD ds
  | none => match dkOf S x with
    | some kvs => match intsK (kvs.map (·.1)) with
      | some is => if is.length ≤ sizeLine then some ((sortI is).map .int) else none
      | none => none
    | none => match dtOf S x with
      | some kvs => (trisK (kvs.map (·.1))).map fun ts => (sort3 ts).map trD
      | none => none
def pairsD : List D → Option (List (Key × D))
  | [] => some []
  | .tup [k, d] :: ds => match keyD k with
    | some k => (pairsD ds).map ((k, d) :: ·)
    | none => none
  | _ => none
def mergeA (l : List (Key × D)) : List (Key × D) := l.foldl (fun acc kv => putM kv.1 kv.2 acc) []
def figs (i : Int) : Str := Str.ofString (toString i)
/-- the hash of a tuple of numbers -/
def hashK : List Key → Int := fun ks => PySem.reduceHash (PySem.Builtin.Tuple.tupleHashOf (ks.map fun | .inl i => PySem.hashInt i | .inr _ => 0))
def intKs (ks : List Key) : Bool := ks.all fun | .inl _ => true | .inr _ => false
/-- x[::-1] -/
def revR (S : Sto) : R → Option R
  | .v (.tup ds) => some (.v (.tup ds.reverse))
  | x => (lsOf S x).map fun ds => .l ds.reverse
def biR (b : Bi) (S : Sto) (xs : List R) : Option R := match b, xs with
  | .len, [x] => match x with
    | .v (.str z) => if z.length ≤ sizeLine then some (.v (.int z.length)) else none
    | x => match sqOf S x with
      | some ds => some (.v (.int ds.length))
      | none => match dkOf S x with
        | some kvs => some (.v (.int kvs.length))
        | none => none
  | .sorted, [x] => (srtOf S x).map .l
  | .list, [x] => (sqOf S x).map .l
  | .tuple, [x] => match x with
    | .v (.tup ds) => some (.v (.tup ds))
    | .v (.tpk ds) => some (.v (.tpk ds))
    | x => (lsOf S x).map fun ds => .v (.tup ds)
  | .min2, [.v (.int i), .v (.int j)] => some (.v (.int (if j < i then j else i)))
  | .max2, [.v (.int i), .v (.int j)] => some (.v (.int (if j > i then j else i)))
  | .sum, [x] => match lsOf S x with
    | some ds => (intsD ds).map fun is => .v (.int is.sum)
    | none => none
  | .all, [x] => match lsOf S x with
    | some ds => (boolsD ds).map fun is => .v (.bl (is.all id))
    | none => none
  | .any, [x] => match lsOf S x with
    | some ds => (boolsD ds).map fun is => .v (.bl (is.any id))
    | none => none
  | .int, [x] => match x with
    | .v (.int i) => some (.v (.int i))
    | .v (.bl k) => some (.v (.int (if k then 1 else 0)))
    | .v (.str z) => if z.length ≤ 640 then (PySem.intText? z).map fun i => .v (.int i) else none
    | _ => none
  | .str, [x] => match x with
    | .v (.int i) => if i.natAbs.log2 < 1920 then some (.v (.str (figs i))) else none
    | .v (.str z) => some (.v (.str z))
    | _ => none
  | .abs, [.v (.int i)] => some (.v (.int (if i < 0 then -i else i)))
  | .dict, [x] => match dkOf S x with
    | some kvs => some (.d kvs)
    | none => match lsOf S x with
      | some ds => (pairsD ds).map fun kvs => .d (mergeA kvs)
      | none => match dtOf S x with
        | some kvs => if (kvs.all fun p => intKs p.1) = true ∧ (kvs.map fun p => hashK p.1).Nodup then some (.t kvs) else none
        | none => none
  | _, _ => none
def Tn.nm : Tn → String
  | .int => "int" | .bool => "bool" | .str => "str" | .tup => "tuple" | .lst => "list"
/-- the built-in type of a value -/
def tyR (S : Sto) : R → Option String
  | .v .non => some "NoneType"
  | .v (.bl _) => some "bool"
  | .v (.int _) => some "int"
  | .v (.str _) => some "str"
  | .v (.tup _) => some "tuple"
  | .v (.tpk _) => some "tuple"
  | .v (.lst _) => some "list"
  | .v (.lsk _) => some "list"
  | .v (.ref a) => match S[a]? with
    | some (.lst _) => some "list"
    | _ => none
  | .l _ => some "list"
  | _ => none
def isiB (t : String) (c : Tn) : Bool := t == c.nm || (t == "bool" && c.nm == "int")
def cut {α : Type} (xs : List α) (lo hi : Option Int) : List α := (xs.drop (HT.sIx xs.length 0 lo)).take (HT.sIx xs.length xs.length hi - HT.sIx xs.length 0 lo)
def slR (S : Sto) (x : R) (lo hi : Option Int) : Option R := match x with
  | .v (.tup ds) => some (.v (.tup (cut ds lo hi)))
  | .v (.str z) => if z.length ≤ sizeLine then some (.v (.str ⟨(cut z.cps.toList lo hi).toArray⟩)) else none
  | x => (lsOf S x).map fun ds => .l (cut ds lo hi)
def ixR (S : Sto) (x y : R) : Option R := match x with
  | .v (.str z) => match y with
    | .v (.int i) => if z.length ≤ sizeLine then (L2.atI z.cps.toList i).map fun c => .v (.str ⟨#[c]⟩) else none
    | _ => none
  | x => match sqOf S x with
    | some ds => match y with
      | .v (.int i) => (L2.atI ds i).map .v
      | _ => none
    | none => match dgR S x y with
      | some (some d) => some (.v d)
      | _ => none
def intR : R → Option Int
  | .v (.int i) => some i
  | _ => none
def blR : R → Option Bool
  | .v (.bl b) => some b
  | _ => none
/-- what is true: nothing, a tuple, a bool -/
def truR : R → Option Bool
  | .v .non => some false
  | .v (.bl b) => some b
  | .v (.tup ds) => some (!ds.isEmpty)
  | .l ds => some (!ds.isEmpty)
  | _ => none
def O.of {α : Type} (S : Sto) : Option α → O α
  | some a => .ok a S
  | none => .no
def indexD (p : PyData) : List PyData → Nat → Option Nat
  | [], _ => none
  | z :: zs, n => if PyData.eqv z p then some n else indexD p zs (n + 1)
/-- methods of the built-in types: what they answer, the store behind -/
def bmR (m : Bm) (S : Sto) (x : R) (ys : List D) : Option (R × Sto) := match m, x, ys with
  | .append, .v (.ref a), [y] => match S[a]? with
    | some (.lst ds) => if ds.length < sizeLine ∧ noL y = true then some (.v .non, S.set a (.lst (ds ++ [y]))) else none
    | _ => none
  | .pop, .v (.ref a), [] => match S[a]? with
    | some (.lst ds) => match ds[ds.length - 1]? with
      | some y => some (.v y, S.set a (.lst ds.dropLast))
      | none => none
    | _ => none
  | .clear, .v (.ref a), [] => match S[a]? with
    | some (.lst _) => some (.v .non, S.set a (.lst []))
    | _ => none
  | .insert, .v (.ref a), [.int i, y] => match S[a]? with
    | some (.lst ds) => if ds.length < sizeLine ∧ noL y = true ∧ 0 ≤ i ∧ i < 2 ^ 63 then some (.v .non, S.set a (.lst (ds.take i.toNat ++ [y] ++ ds.drop i.toNat))) else none
    | _ => none
  | .index, x, [y] => match lsOf S x with
    | some ds => match pyD y, pyDs ds with
      | some p, some ps => if PySem.SeqAt.shaped p && PySem.SeqAt.shaped (.list ps) then (match indexD p ps 0 with
        | some j => some (.v (.int (Int.ofNat j)), S)
        | none => none) else none
      | _, _ => none
    | none => none
  | .count, x, [.int k] => match lsOf S x with
    | some ds => match intsD ds with
      | some is => some (.v (.int (is.count k : Nat)), S)
      | none => (optsD ds).map fun os => (.v (.int (os.count (some k) : Nat)), S)
    | none => none
  | .split, .v (.str a), [.str b] => if (b.length == 0) = false ∧ a.length + 2 ≤ sizeLine then some (.l ((PySem.Txt.split a b).map .str), S) else none
  | .join, .v (.str a), [y] => match sqOf S (.v y) with
    | some ds => match strsD ds with
      | some xs => if (xs.map (·.length)).sum + xs.length * a.length ≤ 16777216 then some (.v (.str (PySem.Txt.join a xs)), S) else none
      | none => none
    | none => none
  | .find, .v (.str a), [.str b] => some (.v (.int (PySem.Txt.find a b)), S)
  | .get, x, [y] => (dgR S x (.v y)).map fun o => (.v (o.getD .non), S)
  | .get2, x, [y, z] => (dgR S x (.v y)).map fun o => (.v (o.getD z), S)
  | .popK, .v (.ref a), [y] => match S[a]? with
    | some (.dk kvs) => match keyD y with
      | some k => match getA k kvs with
        | some d => some (.v d, S.set a (.dk (delA k kvs)))
        | none => none
      | none => none
    | _ => none
  | .popI, .v (.ref a), [.int i] => match S[a]? with
    | some (.lst ds) => if 0 ≤ i ∧ i < 2 ^ 62 then match ds[i.toNat]? with
      | some y => some (.v y, S.set a (.lst (ds.eraseIdx i.toNat)))
      | none => none else none
    | _ => none
  | .setd, .v (.ref a), [y, d] => match S[a]? with
    | some (.dt kvs) => match y with
      | .tup es => match keyDs es with
        | some k => if kvs.length < sizeLine ∧ noL d = true then (match getA k kvs with
          | some v => some (.v v, S)
          | none => some (.v d, S.set a (.dt (putM k d kvs)))) else none
        | none => none
      | _ => none
    | _ => none
  | _, _, _ => none
/-- whether a method may be asked -/
def bmOk (m : Bm) (S : Sto) (x : R) : Bool := match m with
  | .split => match x with
    | .v (.str _) => true
    | _ => false
  | .join => match x with
    | .v (.str _) => true
    | _ => false
  | .find => match x with
    | .v (.str _) => true
    | _ => false
  | .get => (dkOf S x).isSome || (dtOf S x).isSome
  | .get2 => (dkOf S x).isSome || (dtOf S x).isSome
  | .popK => (dkOf S x).isSome
  | .setd => (dtOf S x).isSome
  | _ => (lsOf S x).isSome
/-- names and tuples of names -/
def setAll : List Nat → List D → Loc → Option Loc
  | [], [], r => some r
  | i :: is, d :: ds, r => setAll is ds (r.set i (.v d))
  | _, _, _ => none
/-- the slots of a comprehension's own names forgotten -/
def wipeL (r : Loc) : List Nat → Loc
  | [] => r
  | v :: vs => (wipeL r vs).set v .un
def setG (S : Sto) (g : G) (x : R) (r : Loc) : Option Loc := match g with
  | .name i => (toD x).map fun d => r.set i (.v d)
  | .tup is => match sqOf S x with
    | some ds => setAll is ds r
    | none => none
/-- what a loop walks: the lists that must stand as they are, the items -/
structure Src where
  keep : List (Nat × Ob)
  items : List D
  fx : Bool
def rangeD (lo hi : Int) : List D := (List.range (hi - lo).toNat).map fun (k : Nat) => D.int (lo + (k : Int))
def srcOf (S : Sto) : R → Option Src
  | .l ds => some ⟨[], ds, false⟩
  | .v (.tup ds) => some ⟨[], ds, false⟩
  | .v (.lst ds) => some ⟨[], ds, false⟩
  | .v (.lsk ds) => some ⟨[], ds, false⟩
  | .v (.str z) => some ⟨[], z.cps.toList.map fun c => .str ⟨#[c]⟩, true⟩
  | .v (.ref a) => match S[a]? with
    | some (.lst ds) => some ⟨[(a, .lst ds)], ds, false⟩
    | some (.fz kvs) => some ⟨[(a, .fz kvs)], kvs.map fun p => kD p.1, false⟩
    | _ => none
  | _ => none
def enumD (k : Nat) : List D → List D
  | [] => []
  | d :: ds => .tup [.int k, d] :: enumD (k + 1) ds
def zipD : List D → List D → List D
  | d :: ds, e :: es => .tup [d, e] :: zipD ds es
  | _, _ => []
def Kept (ks : List (Nat × Ob)) (S : Sto) : Prop := ∀ p ∈ ks, S[p.1]? = some p.2
open Classical in
/-- a for: the body's flow at each item -/
noncomputable def forL (ks : List (Nat × Ob)) (f : D → Loc → Sto → O Flow) : List D → Loc → Sto → O Flow
  | [], r, S => if Kept ks S then .ok (.next r) S else .no
  | x :: xs, r, S => if Kept ks S then (match f x r S with
    | .ok (.next r') S' => forL ks f xs r' S'
    | .ok (.cont r') S' => forL ks f xs r' S'
    | .ok (.brk r') S' => .ok (.next r') S'
    | o => o) else .no
open Classical in
/-- a comprehension: what each item gives -/
noncomputable def lcL (ks : List (Nat × Ob)) (f : D → Sto → O (Option D)) : List D → List D → Sto → O (List D)
  | [], acc, S => if Kept ks S then .ok acc S else .no
  | x :: xs, acc, S => if Kept ks S then (match f x S with
    | .ok none S' => lcL ks f xs acc S'
    | .ok (some d) S' => if acc.length < sizeLine then lcL ks f xs (acc ++ [d]) S' else .no
    | _ => .no) else .no
open Classical in
/-- a comprehension that an error may leave -/
noncomputable def lcxL (ks : List (Nat × Ob)) (f : D → Sto → O D) : List D → List D → Sto → O (List D)
  | [], acc, S => if Kept ks S then .ok acc S else .no
  | x :: xs, acc, S => if Kept ks S then (match f x S with
    | .ok d S' => if acc.length < sizeLine then lcxL ks f xs (acc ++ [d]) S' else .no
    | .ex k S' => .ex k S'
    | .no => .no) else .no
def whlL (c : Loc → Sto → O Bool) (f : Loc → Sto → O Flow) : Nat → Loc → Sto → O Flow
  | 0, _, _ => .no
  | n + 1, r, S => match c r S with
    | .ok true S' => (match f r S' with
      | .ok (.next r') S2 => whlL c f n r' S2
      | .ok (.cont r') S2 => whlL c f n r' S2
      | .ok (.brk r') S2 => .ok (.next r') S2
      | o => o)
    | .ok false S' => .ok (.next r) S'
    | .ex k S' => .ok (.raise k r) S'
    | .no => .no
def boolO (o : O R) : O Bool := o.bind fun x S => .of S (blR x)
def valO (o : O R) : O D := o.bind fun x S => .of S (toD x)
/-- a flow of an expression's error -/
def flowO {α : Type} (r : Loc) (o : O α) (f : α → Sto → O Flow) : O Flow := match o with
  | .ok a S => f a S
  | .ex k S => .ok (.raise k r) S
  | .no => .no
/-- a borrowed value may hold no list -/
def brwB (b : Bool) (d : D) : Bool := !b || noL d
def brwR (b : Bool) (x : R) : Bool := match x with
  | .v d => !b || noL d
  | .l ds => !b || noLs ds
  | _ => !b
def brwL (b : Bool) (ds : List D) : Bool := !b || noLs ds
def boxR (S : Sto) : R → Option (R × Sto)
  | .l ds => if noLs ds = true then some (.v (.ref S.length), S ++ [.lst ds]) else none
  | .d kvs => if noLs (kvs.map (·.2)) = true then some (.v (.ref S.length), S ++ [.dk kvs]) else none
  | .t kvs => if noLs (kvs.map (·.2)) = true then some (.v (.ref S.length), S ++ [.dt kvs]) else none
  | _ => none
/-- a[i] = e in the store -/
def putR (S : Sto) (a : Nat) (y : R) (d : D) : Option Sto := if noL d = true then (match S[a]? with
  | some (.lst ds) => match y with
    | .v (.int k) => match L2.ixN ds.length k with
      | some j => some (S.set a (.lst (ds.set j d)))
      | none => none
    | _ => none
  | some (.dk kvs) => match y with
    | .v e => match keyD e with
      | some k => if kvs.length < sizeLine then some (S.set a (.dk (putM k d kvs))) else none
      | none => none
    | _ => none
  | some (.dt kvs) => match y with
    | .v (.tup es) => match keyDs es with
      | some k => if kvs.length < sizeLine then some (S.set a (.dt (putM k d kvs))) else none
      | none => none
    | _ => none
  | _ => none) else none
def pairO {α : Type} : Option (α × Sto) → O α
  | some (y, S') => .ok y S'
  | none => .no
/-- behind what ran while a dict was locked -/
def lckO (p : Nat) (kvs : List (Key × D)) (o : O R) : O R := match o with
  | .ok x S => match S[p]? with
    | some (.fz _) => .ok x (S.set p (.dk kvs))
    | _ => .no
  | _ => .no
/-- a part of an f-string -/
def fs1 : D → Option Str
  | .str x => if x.length ≤ sizeLine then some x else none
  | .int i => if i.natAbs.log2 < 1920 then some (figs i) else none
  | _ => none

/-- a def that answers the first of its argument -/
def isFst (fd : Fd) : Bool := match fd.body with
  | .cons (.ret (.ix (.var 0) (.int 0))) .nil => decide (fd.np = 1)
  | _ => false
def fstD : D → Option Int
  | .tup (.int i :: _) => some i
  | _ => none
/-- a list of tuples sorted by their first -/
def srtkR (S : Sto) (x : R) : Option R := (lsOf S x).bind fun ds => if (ds.all fun d => (fstD d).isSome) = true then some (.l (ds.mergeSort fun a b => decide ((fstD a).getD 0 ≤ (fstD b).getD 0))) else none

section
variable (P : Pg) (rc : Nat → List D → Sto → O R)
mutual
noncomputable def evE : E → Loc → Sto → O R
  | .var i, r, S => match r[i]? with
    | some (.v d) => .ok (.v d) S
    | _ => .no
  | .brw i, r, S => match r[i]? with
    | some (.v d) => .ok (.v d) S
    | some (.own ds) => .ok (.v (.lst ds)) S
    | _ => .no
  | .int i, _, S => .ok (.v (.int i)) S
  | .str x, _, S => .ok (.v (.str x)) S
  | .bl b, _, S => .ok (.v (.bl b)) S
  | .non, _, S => .ok (.v .non) S
  | .gv x, _, S => .of S ((P.gv x).map .v)
  | .bin op a b, r, S => (evE a r S).bind fun x S => (evE b r S).bind fun y S => .of S (binR op S x y)
  | .neg a, r, S => (evE a r S).bind fun x S => .of S ((intR x).map fun i => .v (.int (-i)))
  | .nt a, r, S => (boolO (evE a r S)).bind fun x S => .ok (.v (.bl (!x))) S
  | .and a b, r, S => (boolO (evE a r S)).bind fun x S => if x = true then evE b r S else .ok (.v (.bl false)) S
  | .or a b, r, S => (boolO (evE a r S)).bind fun x S => if x = true then .ok (.v (.bl true)) S else evE b r S
  | .orv a b, r, S => (evE a r S).bind fun x S => match truR x with
    | some true => .ok x S
    | some false => evE b r S
    | none => .no
  | .cmp op a b, r, S => (evE a r S).bind fun x S => (evE b r S).bind fun y S => .of S ((cmpR op S x y).map fun b => .v (.bl b))
  | .chain op op' a b c, r, S => (evE a r S).bind fun x S => (evE b r S).bind fun y S => match cmpR op S x y with
    | some true => (evE c r S).bind fun z S => .of S ((cmpR op' S y z).map fun b => .v (.bl b))
    | some false => .ok (.v (.bl false)) S
    | none => .no
  | .ite c a b, r, S => (boolO (evE c r S)).bind fun x S => if x = true then evE a r S else evE b r S
  | .tup es, r, S => (evEs es r S).bind fun ds S => if ds.length ≤ sizeLine then .ok (.v (.tup ds)) S else .no
  | .lst es, r, S => (evEs es r S).bind fun ds S => if ds.length ≤ sizeLine then .ok (.l ds) S else .no
  | .dsp ks es, r, S => (evEs es r S).bind fun ds S => if ds.length = ks.length ∧ ks.length ≤ 15 then .ok (.d (mergeA (ks.zip ds))) S else .no
  | .dnT, _, S => .ok (.t []) S
  | .box a, r, S => (evE a r S).bind fun x S => pairO (boxR S x)
  | .call f es, r, S => (evEs es r S).bind fun ds S => rc f ds S
  | .cv i es, r, S => match r[i]? with
    | some (.v (.fn f)) => if (P.fn f).isSome = true then (evEs es r S).bind fun ds S => rc f ds S else .no
    | _ => .no
  | .mth m o es, r, S => (evE o r S).bind fun x S => match x with
    | .v (.ref a) => match S[a]? with
      | some (.ins c fs) => match getA m fs, P.mt c m with
        | none, some f => (evEs es r S).bind fun ds S => rc f (.ref a :: ds) S
        | _, _ => .no
      | _ => .no
    | _ => .no
  | .mk c es, r, S => (evEs es r S).bind fun ds S => match P.ini c with
    | some f => (rc f (.ref S.length :: ds) (S ++ [.ins c []])).bind fun x S' => match x with
      | .v .non => .ok (.v (.ref S.length)) S'
      | _ => .no
    | none => .no
  | .bi b es, r, S => (evRs es r S).bind fun xs S => .of S (biR b S xs)
  | .isi a ts, r, S => (evE a r S).bind fun x S => match tyR S x with
    | some t => .ok (.v (.bl (ts.any (isiB t)))) S
    | none => .no
  | .bm m o es, r, S => (evE o r S).bind fun x S => if bmOk m S x = true then (evEs es r S).bind fun ds S => pairO (bmR m S x ds) else .no
  | .fld o f, r, S => (evE o r S).bind fun x S => match x with
    | .v (.ref a) => match S[a]? with
      | some (.ins c fs) => if (P.ini c).isSome = true then .of S ((getA f fs).map .v) else .no
      | _ => .no
    | _ => .no
  | .ix a i, r, S => (evE a r S).bind fun x S => (evE i r S).bind fun y S => .of S (ixR S x y)
  | .sl a, r, S => (evE a r S).bind fun x S => .of S (slR S x none none)
  | .slA a lo, r, S => (evE a r S).bind fun x S => (evE lo r S).bind fun y S => match intR y with
    | some i => .of S (slR S x (some i) none)
    | none => .no
  | .slB a hi, r, S => (evE a r S).bind fun x S => (evE hi r S).bind fun y S => match intR y with
    | some i => .of S (slR S x none (some i))
    | none => .no
  | .slAB a lo hi, r, S => (evE a r S).bind fun x S => (evE lo r S).bind fun y S => match intR y with
    | some i => (evE hi r S).bind fun z S => match intR z with
      | some j => .of S (slR S x (some i) (some j))
      | none => .no
    | none => .no
  | .rev a, r, S => (evE a r S).bind fun x S => .of S (revR S x)
  | .lc own g it e, r, S => (evIt it r S).bind fun sr S => (lcL sr.keep (fun d S => match setG S g (.v d) (wipeL r own) with
    | some r' => (valO (evE e r' S)).bind fun x S => .ok (some x) S
    | none => .no) sr.items [] S).bind fun ds S => .ok (.l ds) S
  | .lcx own g it e, r, S => (evIt it r S).bind fun sr S => (lcxL sr.keep (fun d S => match setG S g (.v d) (wipeL r own) with
    | some r' => valO (evE e r' S)
    | none => .no) sr.items [] S).bind fun ds S => .ok (.l ds) S
  | .lcI own g it c e, r, S => (evIt it r S).bind fun sr S => (lcL sr.keep (fun d S => match setG S g (.v d) (wipeL r own) with
    | some r' => (boolO (evE c r' S)).bind fun b S => if b = true then (valO (evE e r' S)).bind fun x S => .ok (some x) S else .ok none S
    | none => .no) sr.items [] S).bind fun ds S => .ok (.l ds) S
  | .fst es, r, S => (evFs es Str.empty r S).bind fun x S => .ok (.v (.str x)) S
  | .lck i a, r, S => match r[i]? with
    | some (.v (.ref p)) => match S[p]? with
      | some (.dk kvs) => lckO p kvs (evE a r (S.set p (.fz kvs)))
      | _ => .no
    | _ => .no
  | .srtk f a, r, S => match P.fn f with
    | some fd => if isFst fd = true then (evE a r S).bind fun x S => .of S (srtkR S x) else .no
    | none => .no
/-- arguments, items, one by one -/
noncomputable def evEs : Es → Loc → Sto → O (List D)
  | .nil, _, S => .ok [] S
  | .cons e es, r, S => (valO (evE e r S)).bind fun x S => (evEs es r S).bind fun ds S' => .ok (x :: ds) S'
noncomputable def evFs : Es → Str → Loc → Sto → O Str
  | .nil, acc, _, S => .ok acc S
  | .cons e es, acc, r, S => (valO (evE e r S)).bind fun x S => match fs1 x with
    | some y => if (acc ++ y).length ≤ sizeLine then evFs es (acc ++ y) r S else .no
    | none => .no
noncomputable def evRs : Es → Loc → Sto → O (List R)
  | .nil, _, S => .ok [] S
  | .cons e es, r, S => (evE e r S).bind fun x S => (evRs es r S).bind fun ds S' => .ok (x :: ds) S'
noncomputable def evIt : It → Loc → Sto → O Src
  | .e a, r, S => (evE a r S).bind fun x S => .of S (srcOf S x)
  | .rg1 a, r, S => (evE a r S).bind fun x S => match intR x with
    | some j => if -(2 ^ 62) ≤ j ∧ j < 2 ^ 62 then .ok ⟨[], rangeD 0 j, true⟩ S else .no
    | none => .no
  | .rg2 a b, r, S => (evE a r S).bind fun x S => (evE b r S).bind fun y S => match intR x, intR y with
    | some i, some j => if -(2 ^ 62) ≤ i ∧ i < 2 ^ 62 ∧ -(2 ^ 62) ≤ j ∧ j < 2 ^ 62 then .ok ⟨[], rangeD i j, true⟩ S else .no
    | _, _ => .no
  | .rg3 a b c, r, S => (evE a r S).bind fun x S => (evE b r S).bind fun y S => match intR x, intR y with
    | some i, some j => if -(2 ^ 62) ≤ i ∧ i < 2 ^ 62 ∧ -(2 ^ 62) ≤ j ∧ j < 2 ^ 62 ∧ 0 < c ∧ c < 1000 then .ok ⟨[], (List.range ((j - i + c - 1) / c).toNat).map fun (k : Nat) => D.int (i + (k : Int) * c), true⟩ S else .no
    | _, _ => .no
  | .en a, r, S => (evE a r S).bind fun x S => match x with
    | .v (.tup ds) => .ok ⟨[], enumD 0 ds, false⟩ S
    | x => match lsOf S x, srcOf S x with
      | some _, some sr => .ok ⟨sr.keep, enumD 0 sr.items, false⟩ S
      | _, _ => .no
  | .zp a b, r, S => (evE a r S).bind fun x S => (evE b r S).bind fun y S => match lsOf S x, lsOf S y, srcOf S x, srcOf S y with
    | some _, some _, some s1, some s2 => .ok ⟨s1.keep ++ s2.keep, zipD s1.items s2.items, false⟩ S
    | _, _, _, _ => .no
  | .rv a, r, S => (evE a r S).bind fun x S => match lsOf S x, srcOf S x with
    | some _, some sr => .ok ⟨sr.keep, sr.items.reverse, false⟩ S
    | _, _ => .no
  | .rgd a b, r, S => (evE a r S).bind fun x S => (evE b r S).bind fun y S => match intR x, intR y with
    | some i, some j => if -(2 ^ 62) ≤ i ∧ i < 2 ^ 62 ∧ -(2 ^ 62) ≤ j ∧ j < 2 ^ 62 then .ok ⟨[], (List.range (i - j).toNat).map fun (k : Nat) => D.int (i + (k : Int) * (-1)), true⟩ S else .no
    | _, _ => .no
end
mutual
noncomputable def evS : S → Loc → Sto → O Flow
  | .asg b g e, r, S => flowO r (evE P rc e r S) fun x S => if brwR b x = true then (match setG S g x r with
    | some r' => .ok (.next r') S
    | none => .no) else .no
  | .own b i e, r, S => flowO r (evE P rc e r S) fun x S => match x with
    | .l ds => if brwL b ds = true then .ok (.next (r.set i (.own ds))) S else .no
    | _ => .no
  | .apn b i e, r, S => match r[i]? with
    | some (.own ds) => flowO r (valO (evE P rc e r S)) fun d S => if brwB b d = true ∧ ds.length < sizeLine then .ok (.next (r.set i (.own (ds ++ [d])))) S else .no
    | _ => .no
  | .setO b i k e, r, S => flowO r (valO (evE P rc e r S)) fun d S => match r[i]? with
    | some (.own ds) => flowO r (evE P rc k r S) fun y S => match intR y with
      | some k => match L2.ixN ds.length k with
        | some j => if brwB b d = true then .ok (.next (r.set i (.own (ds.set j d)))) S else .no
        | none => .no
      | none => .no
    | _ => .no
  | .frz i, r, S => match r[i]? with
    | some (.own ds) => .ok (.next (r.set i (.v (.lst ds)))) S
    | _ => .no
  | .asgIx o i e, r, S => flowO r (valO (evE P rc e r S)) fun d S => flowO r (evE P rc o r S) fun y S => flowO r (evE P rc i r S) fun z S => match y with
    | .v (.ref a) => match putR S a z d with
      | some S' => .ok (.next r) S'
      | none => .no
    | _ => .no
  | .asgF o f e, r, S => flowO r (valO (evE P rc e r S)) fun d S => flowO r (evE P rc o r S) fun y S => match y with
    | .v (.ref a) => match S[a]? with
      | some (.ins c fs) => if fs.length < 1000 ∧ noL d = true ∧ (P.ini c).isSome = true then .ok (.next r) (S.set a (.ins c (putA f d fs))) else .no
      | _ => .no
    | _ => .no
  | .drop e, r, S => flowO r (evE P rc e r S) fun _ S => .ok (.next r) S
  | .ret e, r, S => flowO r (evE P rc e r S) fun x S => .ok (.ret x) S
  | .retO i, r, S => match r[i]? with
    | some (.own ds) => .ok (.ret (.l ds)) S
    | some (.v d) => .ok (.ret (.v d)) S
    | _ => .no
  | .retN, _, S => .ok (.ret (.v .non)) S
  | .ite c a b, r, S => flowO r (boolO (evE P rc c r S)) fun x S => if x = true then evSs a r S else evSs b r S
  | .fr b g it body, r, S => flowO r (evIt P rc it r S) fun sr S => if brwL b sr.items = true ∧ (!b || sr.fx) = true then forL sr.keep (fun d r S => match setG S g (.v d) r with
    | some r' => evSs body r' S
    | none => .no) sr.items r S else .no
  | .whl n c b, r, S => whlL (fun r S => boolO (evE P rc c r S)) (fun r S => evSs b r S) n r S
  | .rse k, r, S => .ok (.raise k r) S
  | .trx b _ _, r, S => match evSs b r S with
    | .ok (.raise _ _) _ => .no
    | o => o
  | .tr b hs, r, S => match evSs b r S with
    | .ok (.raise k r') S' => evHs hs k r' S'
    | o => o
  | .pass, r, S => .ok (.next r) S
  | .brk, r, S => .ok (.brk r) S
  | .cont, r, S => .ok (.cont r) S
noncomputable def evSs : Ss → Loc → Sto → O Flow
  | .nil, r, S => .ok (.next r) S
  | .cons s ss, r, S => match evS s r S with
    | .ok (.next r') S' => evSs ss r' S'
    | o => o
noncomputable def evHs : Hs → Nat → Loc → Sto → O Flow
  | .nil, k, r, S => .ok (.raise k r) S
  | .cons j b hs, k, r, S => match P.sub j k with
    | some true => (match evSs b r S with
      | .ok (.raise _ _) _ => .no
      | o => o)
    | some false => evHs hs k r S
    | none => .no
  | .two i j b hs, k, r, S => match P.sub i k, P.sub j k with
    | some x, some y => if (x || y) = true then (match evSs b r S with
      | .ok (.raise _ _) _ => .no
      | o => o) else evHs hs k r S
    | _, _ => .no
end
end
def rNoR : R → Bool
  | .v d => noR d
  | .l ds => noRs ds
  | _ => false
open Classical in
/-- what a def leaves -/
noncomputable def endF (tr : Bool) (S : Sto) (o : O Flow) : O R := match o with
  | .ok (.next _) S' => if tr = true then (if S'.take S.length = S then .ok (.v .non) S else .no) else .ok (.v .non) S'
  | .ok (.ret x) S' => if tr = true then (if S'.take S.length = S ∧ rNoR x = true then .ok x S else .no) else .ok x S'
  | .ok (.raise k _) S' => if tr = true then (if S'.take S.length = S then .ex k S else .no) else .ex k S'
  | _ => .no
/-- a def called, at most n deep -/
noncomputable def callF (P : Pg) : Nat → Nat → List D → Sto → O R
  | 0, _, _, _ => .no
  | n + 1, f, ds, S => match P.fn f with
    | some fd => if ds.length = fd.np then endF fd.tr S (evSs P (callF P n) fd.body (ds.map .v ++ List.replicate (fd.ns - fd.np) .un) S) else .no
    | none => .no
section
variable (P : Pg) (rc : Nat → List D → Sto → O R)
example (r : Loc) (S : Sto) (i j : Int) : evE P rc (.bin .add (.int i) (.int j)) r S = .ok (.v (.int (i + j))) S := rfl
example (i j : Int) : pyD (.tup [.int i, .int j]) = some (.tuple [.int i, .int j]) := rfl
example (r : Loc) (S : Sto) (i j : Int) : evS P rc (.asg false (.name 0) (.int i)) [.un] S = .ok (.next [.v (.int i)]) S := rfl
end
end Pl
namespace Pl
open PySem PySem.Spec
open PyProof.Rows hiding St
open L2
mutual
/-- a written value is this one -/
def gvB (fn : Nat → Addr) (K : PySem.W.Frag) : D → Value → Bool
  | .non, .none => true
  | .bl b, .bool c => decide (b = c)
  | .int i, .int j _ => decide (i = j)
  | .str x, .str y _ => decide (x = y)
  | .fn f, .ref a => decide (a = fn f)
  | .tpk ds, .ref a => (match K.lookup a with
    | some o => (match o.cls, o.data with
      | .type c, .seq its _ => decide (c = "tuple") && (decide (its.size ≤ sizeLine) && gvsB fn K ds its.toList)
      | _, _ => false)
    | none => false)
  | .lsk ds, .ref a => (match K.lookup a with
    | some o => (match o.cls, o.dict, o.data with
      | .type c, none, .seq its _ => decide (c = "list") && (decide (its.size ≤ sizeLine) && gvsB fn K ds its.toList)
      | _, _, _ => false)
    | none => false)
  | _, _ => false
def gvsB (fn : Nat → Addr) (K : PySem.W.Frag) : List D → List Value → Bool
  | [], [] => true
  | d :: ds, u :: us => gvB fn K d u && gvsB fn K ds us
  | _, _ => false
end
def bNames : List Str := ["len", "sorted", "list", "tuple", "min", "max", "sum", "all", "any", "int", "str", "abs", "isinstance", "range", "enumerate", "bool", "dict", "zip", "reversed"]
def wvB (fn : Nat → Addr) : D → Value → Bool
  | .int i, .int j _ => decide (i = j)
  | .str x, .str y _ => decide (x = y)
  | .fn f, .ref a => decide (a = fn f)
  | _, _ => false
def keyIs (k : Str) : Value → Bool
  | .str x _ => decide (x = k)
  | _ => false
def entB (fn : Nat → Addr) : List Str → List D → List DictEntry → Bool
  | [], [], [] => true
  | k :: ks, d :: ds, e :: es => keyIs k e.key && (wvB fn d e.val && entB fn ks ds es)
  | _, _, _ => false
def dckB (fn : Nat → Addr) (K : PySem.W.Frag) (a : Addr) (ks : List Str) (ds : List D) : Bool := match K.lookup a with
  | some ⟨_, _, .dict es _, _⟩ => entB fn ks ds es.toList
  | _ => false
def gvAll (fn : Nat → Addr) (K : PySem.W.Frag) (l : List (Str × D)) : Bool := l.all fun p => match PySem.W.nsIn K mainGlobals p.1 with
  | some (some u) => (match p.2 with
    | .dck ks ds => (match u with
      | .ref a => decide (a = He.ga K p.1) && dckB fn K a ks ds
      | _ => false)
    | d => gvB fn K d u)
  | _ => false
end Pl
namespace Pl
open PySem PySem.Spec
abbrev k_number : Nat := 56
abbrev k_numbers_of : Nat := 59
abbrev k_figure : Nat := 60
abbrev k_steps_of : Nat := 61
abbrev k_cell_of : Nat := 62
abbrev k_read_vein : Nat := 65
abbrev k_read_words : Nat := 66
abbrev k_read_fact : Nat := 67
abbrev k_law_draw : Nat := 4
abbrev k_law_same : Nat := 5
abbrev k_law_size : Nat := 15
abbrev k_law_rect : Nat := 6
abbrev k_law_steps : Nat := 34
abbrev k_law_outs : Nat := 35
abbrev k_law_who : Nat := 36
abbrev k_law_pick : Nat := 37
abbrev k_law_vein : Nat := 38
abbrev k_law_claim_fact : Nat := 39
abbrev k_law_fact : Nat := 40
abbrev k_law_dig : Nat := 41
abbrev k_law_pay : Nat := 42
abbrev k_law_bounds : Nat := 44
abbrev k_law_some_fact : Nat := 48
abbrev k_law_number : Nat := 57
abbrev k_law_numbers : Nat := 72
abbrev k_law_read_vein : Nat := 73
abbrev k_law_read : Nat := 74
abbrev k_law_written : Nat := 68
abbrev k_law_bent : Nat := 75
abbrev k_law_told : Nat := 76
abbrev k_law_k08 : Nat := 77
abbrev x_DiprightError : Nat := 10
abbrev x_BadNumber : Nat := 11
abbrev x_BadFact : Nat := 12
abbrev x_BadText : Nat := 13
def b_number_1 : Ss := (.cons (.ite (.cmp .nin (.var 1) (.gv "FIGURES"))
  (.cons (.ret .non)
  .nil)
  .nil)
  .nil)
def d_number : Fd := ⟨1, 2, false, (.cons (.ite (.or (.cmp .eq (.var 0) (.str (txS []))) (.and (.cmp .eq (.ix (.var 0) (.int 0)) (.str (txS [48]))) (.cmp .gt (.bi .len (.cons (.var 0) .nil)) (.int 1))))
  (.cons (.ret .non)
  .nil)
  .nil)
  (.cons (.fr false (.name 1) (.e (.var 0)) b_number_1)
  (.cons (.ret (.bi .int (.cons (.var 0) .nil)))
  .nil)))⟩
def u_numbers_of_1 : E := (.call k_number (.cons (.var 2) .nil))
def u_numbers_of_2 : E := (.cmp .isN (.var 3) .non)
def d_numbers_of : Fd := ⟨1, 4, false, (.cons (.asg false (.name 1) (.lc [2] (.name 2) (.e (.var 0)) u_numbers_of_1))
  (.cons (.ite (.bi .any (.cons (.lc [3] (.name 3) (.e (.var 1)) u_numbers_of_2) .nil))
  (.cons (.rse x_BadText)
  .nil)
  .nil)
  (.cons (.ret (.var 1))
  .nil)))⟩
def d_figure : Fd := ⟨1, 2, false, (.cons (.asg false (.name 1) (.bm .find (.gv "FIGURES") (.cons (.var 0) .nil)))
  (.cons (.ite (.cmp .lt (.var 1) (.int 0))
  (.cons (.rse x_BadText)
  .nil)
  .nil)
  (.cons (.ret (.var 1))
  .nil)))⟩
def u_steps_of_1 : E := (.call k_figure (.cons (.var 1) .nil))
def d_steps_of : Fd := ⟨1, 2, false, (.cons (.ite (.cmp .eq (.var 0) (.str (txS [45])))
  (.cons (.ret (.tup .nil))
  .nil)
  .nil)
  (.cons (.ite (.cmp .eq (.var 0) (.str (txS [])))
  (.cons (.rse x_BadText)
  .nil)
  .nil)
  (.cons (.ret (.bi .tuple (.cons (.lcx [1] (.name 1) (.e (.var 0)) u_steps_of_1) .nil)))
  .nil)))⟩
def d_cell_of : Fd := ⟨1, 2, false, (.cons (.asg false (.name 1) (.bm .split (.var 0) (.cons (.str (txS [44])) .nil)))
  (.cons (.ite (.cmp .ne (.bi .len (.cons (.var 1) .nil)) (.int 2))
  (.cons (.rse x_BadText)
  .nil)
  .nil)
  (.cons (.ret (.bi .tuple (.cons (.call k_numbers_of (.cons (.var 1) .nil)) .nil)))
  .nil)))⟩
def u_read_vein_1 : E := (.call k_cell_of (.cons (.var 2) .nil))
def d_read_vein : Fd := ⟨1, 3, false, (.cons (.ite (.cmp .lt (.bi .len (.cons (.var 0) .nil)) (.int 3))
  (.cons (.rse x_BadText)
  .nil)
  .nil)
  (.cons (.asg false (.name 1) (.call k_steps_of (.cons (.ix (.var 0) (.int 1)) .nil)))
  (.cons (.ret (.tup (.cons (.str (txS [118, 101, 105, 110])) (.cons (.var 1) (.cons (.bi .tuple (.cons (.lcx [2] (.name 2) (.e (.slA (.var 0) (.int 2))) u_read_vein_1) .nil)) .nil)))))
  .nil)))⟩
def d_read_words : Fd := ⟨1, 2, false, (.cons (.asg false (.name 1) (.ix (.var 0) (.int 0)))
  (.cons (.ite (.cmp .eq (.var 1) (.str (txS [118, 101, 105, 110])))
  (.cons (.ret (.call k_read_vein (.cons (.var 0) .nil)))
  .nil)
  .nil)
  (.cons (.ite (.or (.cmp .nin (.var 1) (.gv "LENGTHS")) (.cmp .ne (.bi .len (.cons (.var 0) .nil)) (.ix (.gv "LENGTHS") (.var 1))))
  (.cons (.rse x_BadText)
  .nil)
  .nil)
  (.cons (.ret (.bin .add (.tup (.cons (.var 1) .nil)) (.bi .tuple (.cons (.call k_numbers_of (.cons (.slA (.var 0) (.int 1)) .nil)) .nil))))
  .nil))))⟩
def d_read_fact : Fd := ⟨1, 1, false, (.cons (.ret (.call k_read_words (.cons (.bm .split (.var 0) (.cons (.str (txS [32])) .nil)) .nil)))
  .nil)⟩
def b_law_draw_1 : Ss := (.cons (.asg false (.name 6) (.bin .fdiv (.var 6) (.bin .pow (.int 10) (.int 10))))
  .nil)
def d_law_draw : Fd := ⟨4, 10, false, (.cons (.asg false (.name 4) (.int 0))
  (.cons (.asg false (.name 5) (.int 1))
  (.cons (.ite (.cmp .gt (.bi .len (.cons (.var 0) .nil)) (.int 0))
  (.cons (.asg false (.name 4) (.ix (.var 0) (.bin .mod (.var 1) (.bi .len (.cons (.var 0) .nil)))))
  (.cons (.asg false (.name 5) (.bin .fdiv (.var 1) (.bi .len (.cons (.var 0) .nil))))
  .nil))
  .nil)
  (.cons (.asg false (.name 6) (.var 4))
  (.cons (.fr false (.name 7) (.rg1 (.var 2)) b_law_draw_1)
  (.cons (.ite (.and (.cmp .eq (.var 5) (.int 0)) (.and (.cmp .ge (.var 4) (.bin .pow (.int 10) (.int 18))) (.cmp .gt (.var 6) (.int 0))))
  (.cons (.ret (.bin .mod (.bin .mod (.var 6) (.bin .pow (.int 10) (.int 10))) (.var 3)))
  .nil)
  .nil)
  (.cons (.asg false (.name 8) (.bin .mod (.bin .add (.bin .add (.bin .add (.bin .mul (.var 4) (.int 7919)) (.bin .mul (.var 1) (.int 104729))) (.bin .mul (.var 2) (.int 1299709))) (.int 31)) (.int 1000000007)))
  (.cons (.asg false (.name 9) (.bin .mod (.bin .add (.bin .mul (.var 8) (.int 48271)) (.bin .fdiv (.var 4) (.int 1009))) (.int 998244353)))
  (.cons (.asg false (.name 9) (.bin .mod (.bin .add (.bin .mul (.var 9) (.bin .add (.bin .mod (.var 8) (.int 9973)) (.int 1))) (.var 2)) (.int 1000000009)))
  (.cons (.ret (.bin .mod (.bin .mod (.bin .add (.bin .add (.bin .mul (.var 8) (.int 69621)) (.bin .mul (.var 9) (.int 40692))) (.bin .fdiv (.var 9) (.int 1013))) (.int 2147483647)) (.var 3)))
  .nil))))))))))⟩
def u_law_same_1 : E := (.call k_law_same (.cons (.ix (.var 0) (.var 3)) (.cons (.ix (.var 1) (.var 3)) .nil)))
def d_law_same : Fd := ⟨2, 4, false, (.cons (.ite (.isi (.var 1) [.tup, .lst])
  (.cons (.ite (.or (.nt (.isi (.var 0) [.tup, .lst])) (.cmp .ne (.bi .len (.cons (.var 0) .nil)) (.bi .len (.cons (.var 1) .nil))))
  (.cons (.ret (.bl false))
  .nil)
  .nil)
  (.cons (.asg false (.name 2) (.bi .all (.cons (.lc [3] (.name 3) (.rg1 (.bi .len (.cons (.var 1) .nil))) u_law_same_1) .nil)))
  (.cons (.ret (.and (.var 2) (.cmp .eq (.isi (.var 0) [.tup]) (.isi (.var 1) [.tup]))))
  .nil)))
  .nil)
  (.cons (.asg false (.name 2) (.cmp .eq (.isi (.var 0) [.int]) (.isi (.var 1) [.int])))
  (.cons (.asg false (.name 2) (.and (.var 2) (.cmp .eq (.isi (.var 0) [.bool]) (.isi (.var 1) [.bool]))))
  (.cons (.ret (.and (.var 2) (.and (.cmp .eq (.isi (.var 0) [.str]) (.isi (.var 1) [.str])) (.cmp .eq (.var 0) (.var 1)))))
  .nil))))⟩
def d_law_size : Fd := ⟨2, 6, false, (.cons (.asg false (.name 2) (.bin .add (.int 1) (.call k_law_draw (.cons (.var 0) (.cons (.var 1) (.cons (.int 0) (.cons (.int 6) .nil)))))))
  (.cons (.asg false (.name 3) (.bin .add (.int 1) (.call k_law_draw (.cons (.var 0) (.cons (.var 1) (.cons (.int 1) (.cons (.int 6) .nil)))))))
  (.cons (.asg false (.name 4) (.call k_law_draw (.cons (.var 0) (.cons (.var 1) (.cons (.int 2) (.cons (.int 6) .nil))))))
  (.cons (.asg false (.name 5) (.lst (.cons (.tup (.cons (.int 24) (.cons (.bin .add (.int 1) (.bin .fdiv (.var 3) (.int 3))) (.cons (.bin .fdiv (.var 4) (.int 2)) .nil)))) (.cons (.tup (.cons (.bin .add (.int 1) (.bin .fdiv (.var 2) (.int 3))) (.cons (.int 24) (.cons (.bin .fdiv (.var 4) (.int 2)) .nil)))) .nil))))
  (.cons (.asg false (.name 5) (.bin .add (.var 5) (.lst (.cons (.tup (.cons (.bin .add (.int 1) (.bin .fdiv (.var 2) (.int 3))) (.cons (.bin .add (.int 1) (.bin .fdiv (.var 3) (.int 3))) (.cons (.int 12) .nil)))) (.cons (.tup (.cons (.var 2) (.cons (.var 3) (.cons (.var 4) .nil)))) .nil)))))
  (.cons (.ret (.ix (.var 5) (.bi .min2 (.cons (.int 3) (.cons (.call k_law_draw (.cons (.var 0) (.cons (.var 1) (.cons (.int 3) (.cons (.int 12) .nil))))) .nil)))))
  .nil))))))⟩
def d_law_rect : Fd := ⟨5, 7, false, (.cons (.asg false (.name 5) (.bi .sorted (.cons (.lst (.cons (.call k_law_draw (.cons (.var 0) (.cons (.var 1) (.cons (.var 2) (.cons (.var 3) .nil))))) (.cons (.call k_law_draw (.cons (.var 0) (.cons (.var 1) (.cons (.bin .add (.var 2) (.int 1)) (.cons (.var 3) .nil))))) .nil))) .nil)))
  (.cons (.asg false (.name 6) (.bi .sorted (.cons (.lst (.cons (.call k_law_draw (.cons (.var 0) (.cons (.var 1) (.cons (.bin .add (.var 2) (.int 2)) (.cons (.var 4) .nil))))) (.cons (.call k_law_draw (.cons (.var 0) (.cons (.var 1) (.cons (.bin .add (.var 2) (.int 3)) (.cons (.var 4) .nil))))) .nil))) .nil)))
  (.cons (.ret (.tup (.cons (.ix (.var 5) (.int 0)) (.cons (.ix (.var 6) (.int 0)) (.cons (.ix (.var 5) (.int 1)) (.cons (.ix (.var 6) (.int 1)) .nil))))))
  .nil)))⟩
def u_law_steps_1 : E := (.ix (.lst (.cons (.int 0) (.cons (.int 1) (.cons (.int 2) (.cons (.int 3) (.cons (.int 4) (.cons (.int 0) (.cons (.int 0) .nil)))))))) (.call k_law_draw (.cons (.var 0) (.cons (.var 1) (.cons (.bin .add (.var 2) (.var 4)) (.cons (.int 7) .nil))))))
def d_law_steps : Fd := ⟨4, 5, false, (.cons (.ret (.bi .tuple (.cons (.lc [4] (.name 4) (.rg1 (.var 3)) u_law_steps_1) .nil)))
  .nil)⟩
def b_law_outs_1 : Ss := (.cons (.asg false (.name 9) (.bin .mod (.bin .add (.var 5) (.bin .mul (.var 8) (.var 6))) (.var 4)))
  (.cons (.ite (.cmp .nin (.tup (.cons (.bin .mod (.var 9) (.ix (.var 3) (.int 0))) (.cons (.bin .fdiv (.var 9) (.ix (.var 3) (.int 0))) .nil))) (.brw 7))
  (.cons (.apn false 7 (.tup (.cons (.bin .mod (.var 9) (.ix (.var 3) (.int 0))) (.cons (.bin .fdiv (.var 9) (.ix (.var 3) (.int 0))) .nil))))
  .nil)
  .nil)
  .nil))
def d_law_outs : Fd := ⟨4, 10, false, (.cons (.asg false (.name 4) (.bin .mul (.ix (.var 3) (.int 0)) (.ix (.var 3) (.int 1))))
  (.cons (.asg false (.name 5) (.call k_law_draw (.cons (.var 0) (.cons (.var 1) (.cons (.var 2) (.cons (.var 4) .nil))))))
  (.cons (.asg false (.name 6) (.bin .add (.int 1) (.call k_law_draw (.cons (.var 0) (.cons (.var 1) (.cons (.bin .add (.var 2) (.int 1)) (.cons (.var 4) .nil)))))))
  (.cons (.own false 7 (.lst .nil))
  (.cons (.fr false (.name 8) (.rg1 (.bin .add (.int 1) (.call k_law_draw (.cons (.var 0) (.cons (.var 1) (.cons (.bin .add (.var 2) (.int 3)) (.cons (.ix (.lst (.cons (.int 16) (.cons (.int 4) (.cons (.int 4) (.cons (.int 4) .nil))))) (.call k_law_draw (.cons (.var 0) (.cons (.var 1) (.cons (.bin .add (.var 2) (.int 2)) (.cons (.int 4) .nil)))))) .nil))))))) b_law_outs_1)
  (.cons (.frz 7)
  (.cons (.ret (.bi .tuple (.cons (.var 7) .nil)))
  .nil)))))))⟩
def d_law_who : Fd := ⟨3, 3, false, (.cons (.ret (.bin .add (.int 1) (.call k_law_draw (.cons (.var 0) (.cons (.var 1) (.cons (.var 2) (.cons (.ix (.lst (.cons (.int 40) (.cons (.int 4) (.cons (.int 4) (.cons (.int 4) (.cons (.int 4) (.cons (.int 4) .nil))))))) (.call k_law_draw (.cons (.var 0) (.cons (.var 1) (.cons (.bin .add (.var 2) (.int 1)) (.cons (.int 6) .nil)))))) .nil)))))))
  .nil)⟩
def d_law_pick : Fd := ⟨4, 4, false, (.cons (.ite (.or (.cmp .eq (.bi .len (.cons (.var 3) .nil)) (.int 0)) (.cmp .eq (.call k_law_draw (.cons (.var 0) (.cons (.var 1) (.cons (.var 2) (.cons (.int 14) .nil))))) (.int 0)))
  (.cons (.ret (.bin .add (.int 1) (.call k_law_draw (.cons (.var 0) (.cons (.var 1) (.cons (.bin .add (.var 2) (.int 1)) (.cons (.int 400) .nil)))))))
  .nil)
  .nil)
  (.cons (.ret (.ix (.var 3) (.call k_law_draw (.cons (.var 0) (.cons (.var 1) (.cons (.bin .add (.var 2) (.int 1)) (.cons (.bi .len (.cons (.var 3) .nil)) .nil)))))))
  .nil))⟩
def d_law_vein : Fd := ⟨3, 3, false, (.cons (.ret (.tup (.cons (.str (txS [118, 101, 105, 110])) (.cons (.call k_law_steps (.cons (.var 0) (.cons (.var 1) (.cons (.int 8) (.cons (.ix (.var 2) (.int 2)) .nil))))) (.cons (.call k_law_outs (.cons (.var 0) (.cons (.var 1) (.cons (.int 1) (.cons (.var 2) .nil))))) .nil)))))
  .nil)⟩
def d_law_claim_fact : Fd := ⟨5, 9, false, (.cons (.asg false (.name 5) (.call k_law_pick (.cons (.var 0) (.cons (.var 1) (.cons (.int 1) (.cons (.var 4) .nil))))))
  (.cons (.asg false (.name 6) (.call k_law_who (.cons (.var 0) (.cons (.var 1) (.cons (.int 3) .nil)))))
  (.cons (.asg false (.name 7) (.call k_law_draw (.cons (.var 0) (.cons (.var 1) (.cons (.int 5) (.cons (.int 2) .nil))))))
  (.cons (.asg false (.name 8) (.bin .add (.int 1) (.call k_law_draw (.cons (.var 0) (.cons (.var 1) (.cons (.int 6) (.cons (.bi .min2 (.cons (.int 23) (.cons (.ix (.var 3) (.var 7)) .nil))) .nil)))))))
  (.cons (.ite (.cmp .lt (.var 2) (.int 3))
  (.cons (.ret (.tup (.cons (.str (txS [119, 111, 114, 107])) (.cons (.var 5) .nil))))
  .nil)
  .nil)
  (.cons (.ret (.ix (.lst (.cons (.tup (.cons (.str (txS [115, 101, 108, 108])) (.cons (.var 5) (.cons (.var 6) .nil)))) (.cons (.tup (.cons (.str (txS [112, 97, 114, 116])) (.cons (.var 5) (.cons (.var 7) (.cons (.var 8) (.cons (.var 6) .nil)))))) (.cons (.tup (.cons (.str (txS [103, 105, 118, 101])) (.cons (.var 5) .nil))) .nil)))) (.bin .sub (.bin .fdiv (.var 2) (.int 2)) (.int 1))))
  .nil))))))⟩
def v_law_fact_1 : E := (.cmp .eq (.ix (.var 7) (.int 0)) (.str (txS [118, 101, 105, 110])))
def u_law_fact_2 : E := (.var 6)
def v_law_fact_3 : E := (.cmp .inn (.ix (.var 7) (.int 0)) (.tup (.cons (.str (txS [115, 116, 97, 107, 101])) (.cons (.str (txS [112, 97, 114, 116])) .nil))))
def u_law_fact_4 : E := (.var 6)
def d_law_fact : Fd := ⟨4, 10, false, (.cons (.asg false (.name 4) (.call k_law_draw (.cons (.var 0) (.cons (.var 1) (.cons (.int 0) (.cons (.int 20) .nil))))))
  (.cons (.asg false (.name 5) (.lcI [6, 7] (.tup [6, 7]) (.e (.var 3)) v_law_fact_1 u_law_fact_2))
  (.cons (.asg false (.name 8) (.lcI [6, 7] (.tup [6, 7]) (.e (.var 3)) v_law_fact_3 u_law_fact_4))
  (.cons (.ite (.or (.cmp .lt (.var 4) (.int 3)) (.and (.cmp .lt (.var 4) (.int 8)) (.cmp .eq (.bi .len (.cons (.var 5) .nil)) (.int 0))))
  (.cons (.ret (.call k_law_vein (.cons (.var 0) (.cons (.var 1) (.cons (.var 2) .nil)))))
  .nil)
  .nil)
  (.cons (.ite (.and (.cmp .lt (.var 4) (.int 5)) (.cmp .gt (.ix (.var 2) (.int 2)) (.int 0)))
  (.cons (.asg false (.name 9) (.bin .add (.int 1) (.call k_law_draw (.cons (.var 0) (.cons (.var 1) (.cons (.int 5) (.cons (.ix (.var 2) (.int 2)) .nil)))))))
  (.cons (.ret (.tup (.cons (.str (txS [106, 111, 105, 110])) (.cons (.call k_law_pick (.cons (.var 0) (.cons (.var 1) (.cons (.int 1) (.cons (.var 5) .nil))))) (.cons (.call k_law_pick (.cons (.var 0) (.cons (.var 1) (.cons (.int 3) (.cons (.var 5) .nil))))) (.cons (.var 9) .nil))))))
  .nil))
  .nil)
  (.cons (.ite (.or (.cmp .lt (.var 4) (.int 12)) (.and (.cmp .lt (.var 4) (.int 17)) (.cmp .eq (.bi .len (.cons (.var 8) .nil)) (.int 0))))
  (.cons (.ret (.bin .add (.tup (.cons (.str (txS [115, 116, 97, 107, 101])) (.cons (.call k_law_who (.cons (.var 0) (.cons (.var 1) (.cons (.int 1) .nil)))) .nil))) (.call k_law_rect (.cons (.var 0) (.cons (.var 1) (.cons (.int 3) (.cons (.ix (.var 2) (.int 0)) (.cons (.ix (.var 2) (.int 1)) .nil))))))))
  .nil)
  .nil)
  (.cons (.ret (.call k_law_claim_fact (.cons (.var 0) (.cons (.var 1) (.cons (.bin .sub (.var 4) (.int 12)) (.cons (.var 2) (.cons (.var 8) .nil)))))))
  .nil)))))))⟩
def d_law_dig : Fd := ⟨3, 6, false, (.cons (.asg false (.name 3) (.slB (.call k_law_rect (.cons (.var 0) (.cons (.var 1) (.cons (.int 1) (.cons (.ix (.var 2) (.int 0)) (.cons (.ix (.var 2) (.int 1)) .nil)))))) (.int 2)))
  (.cons (.asg false (.name 4) (.bin .add (.slA (.call k_law_rect (.cons (.var 0) (.cons (.var 1) (.cons (.int 5) (.cons (.ix (.var 2) (.int 0)) (.cons (.ix (.var 2) (.int 1)) .nil)))))) (.int 2)) (.tup (.cons (.call k_law_draw (.cons (.var 0) (.cons (.var 1) (.cons (.int 9) (.cons (.bin .add (.ix (.var 2) (.int 2)) (.int 1)) .nil))))) .nil))))
  (.cons (.asg false (.name 5) (.bin .add (.int 1) (.call k_law_draw (.cons (.var 0) (.cons (.var 1) (.cons (.int 10) (.cons (.ix (.lst (.cons (.int 9) (.cons (.int 300) (.cons (.bin .pow (.int 10) (.int 6)) .nil)))) (.call k_law_draw (.cons (.var 0) (.cons (.var 1) (.cons (.int 11) (.cons (.int 3) .nil)))))) .nil)))))))
  (.cons (.ret (.bin .add (.bin .add (.bin .add (.tup (.cons (.str (txS [100, 105, 103])) (.cons (.call k_law_who (.cons (.var 0) (.cons (.var 1) (.cons (.int 12) .nil)))) .nil))) (.var 3)) (.var 4)) (.tup (.cons (.var 5) .nil))))
  .nil))))⟩
def d_law_pay : Fd := ⟨2, 4, false, (.cons (.asg false (.name 2) (.call k_law_who (.cons (.var 0) (.cons (.var 1) (.cons (.int 1) .nil)))))
  (.cons (.asg false (.name 3) (.call k_law_who (.cons (.var 0) (.cons (.var 1) (.cons (.int 3) .nil)))))
  (.cons (.ite (.cmp .eq (.var 3) (.var 2))
  (.cons (.asg false (.name 3) (.bin .add (.bin .mod (.var 2) (.int 40)) (.int 1)))
  .nil)
  .nil)
  (.cons (.ret (.tup (.cons (.str (txS [112, 97, 121])) (.cons (.var 2) (.cons (.var 3) (.cons (.bin .add (.int 1) (.call k_law_draw (.cons (.var 0) (.cons (.var 1) (.cons (.int 5) (.cons (.ix (.lst (.cons (.int 9) (.cons (.bin .pow (.int 10) (.int 6)) .nil))) (.call k_law_draw (.cons (.var 0) (.cons (.var 1) (.cons (.int 6) (.cons (.int 2) .nil)))))) .nil)))))) .nil))))))
  .nil))))⟩
def d_law_bounds : Fd := ⟨2, 8, false, (.cons (.asg false (.name 2) (.tup (.cons (.int 1) (.cons (.int 400) .nil))))
  (.cons (.asg false (.name 3) (.tup (.cons (.int 1) (.cons (.int 40) .nil))))
  (.cons (.asg false (.name 4) (.tup (.cons (.int 1) (.cons (.bin .pow (.int 10) (.int 6)) .nil))))
  (.cons (.asg false (.name 5) (.tup (.cons (.int 0) (.cons (.bin .sub (.ix (.var 0) (.int 0)) (.int 1)) .nil))))
  (.cons (.asg false (.name 6) (.tup (.cons (.int 0) (.cons (.bin .sub (.ix (.var 0) (.int 1)) (.int 1)) .nil))))
  (.cons (.asg false (.name 7) (.box (.dsp [.inr (txS [106, 111, 105, 110]), .inr (txS [115, 116, 97, 107, 101]), .inr (txS [119, 111, 114, 107])] (.cons (.box (.lst (.cons (.var 2) (.cons (.var 2) (.cons (.tup (.cons (.int 1) (.cons (.ix (.var 0) (.int 2)) .nil))) .nil))))) (.cons (.box (.lst (.cons (.var 3) (.cons (.var 5) (.cons (.var 6) (.cons (.var 5) (.cons (.var 6) .nil))))))) (.cons (.box (.lst (.cons (.var 2) .nil))) .nil))))))
  (.cons (.asgIx (.var 7) (.str (txS [115, 101, 108, 108])) (.box (.lst (.cons (.var 2) (.cons (.var 3) .nil)))))
  (.cons (.asgIx (.var 7) (.str (txS [112, 97, 114, 116])) (.box (.lst (.cons (.var 2) (.cons (.tup (.cons (.int 0) (.cons (.int 1) .nil))) (.cons (.tup (.cons (.int 1) (.cons (.int 23) .nil))) (.cons (.var 3) .nil)))))))
  (.cons (.asgIx (.var 7) (.str (txS [103, 105, 118, 101])) (.box (.lst (.cons (.var 2) .nil))))
  (.cons (.asgIx (.var 7) (.str (txS [100, 105, 103])) (.box (.lst (.cons (.var 3) (.cons (.var 5) (.cons (.var 6) (.cons (.var 5) (.cons (.var 6) (.cons (.tup (.cons (.int 0) (.cons (.ix (.var 0) (.int 2)) .nil))) (.cons (.var 4) .nil))))))))))
  (.cons (.asgIx (.var 7) (.str (txS [112, 97, 121])) (.box (.lst (.cons (.var 3) (.cons (.var 3) (.cons (.var 4) .nil))))))
  (.cons (.ret (.bm .get (.var 7) (.cons (.var 1) .nil)))
  .nil))))))))))))⟩
def d_law_some_fact : Fd := ⟨3, 4, false, (.cons (.asg false (.name 3) (.call k_law_draw (.cons (.var 0) (.cons (.var 1) (.cons (.int 24) (.cons (.int 5) .nil))))))
  (.cons (.ite (.cmp .eq (.var 3) (.int 0))
  (.cons (.ret (.call k_law_dig (.cons (.var 0) (.cons (.var 1) (.cons (.var 2) .nil)))))
  .nil)
  .nil)
  (.cons (.ite (.cmp .eq (.var 3) (.int 1))
  (.cons (.ret (.call k_law_pay (.cons (.var 0) (.cons (.var 1) .nil))))
  .nil)
  .nil)
  (.cons (.ret (.call k_law_fact (.cons (.var 0) (.cons (.var 1) (.cons (.var 2) (.cons (.lst (.cons (.tup (.cons (.int 7) (.cons (.tup (.cons (.str (txS [118, 101, 105, 110])) .nil)) .nil))) (.cons (.tup (.cons (.bin .add (.int 1) (.call k_law_draw (.cons (.var 0) (.cons (.var 1) (.cons (.int 21) (.cons (.int 400) .nil)))))) (.cons (.tup (.cons (.str (txS [115, 116, 97, 107, 101])) .nil)) .nil))) .nil))) .nil))))))
  .nil))))⟩
def b_law_number_1 : Ss := (.cons (.asg false (.name 3) (.bm .find (.str (txS [48, 49, 50, 51, 52, 53, 54, 55, 56, 57])) (.cons (.var 2) .nil)))
  (.cons (.ite (.cmp .lt (.var 3) (.int 0))
  (.cons (.ret .non)
  .nil)
  .nil)
  (.cons (.asg false (.name 1) (.bin .add (.bin .mul (.var 1) (.int 10)) (.var 3)))
  .nil)))
def d_law_number : Fd := ⟨1, 4, false, (.cons (.ite (.or (.cmp .eq (.var 0) (.str (txS []))) (.and (.cmp .gt (.bi .len (.cons (.var 0) .nil)) (.int 1)) (.cmp .eq (.ix (.var 0) (.int 0)) (.str (txS [48])))))
  (.cons (.ret .non)
  .nil)
  .nil)
  (.cons (.asg false (.name 1) (.int 0))
  (.cons (.fr false (.name 2) (.e (.var 0)) b_law_number_1)
  (.cons (.ret (.var 1))
  .nil))))⟩
def u_law_numbers_1 : E := (.call k_law_number (.cons (.var 2) .nil))
def u_law_numbers_2 : E := (.cmp .isN (.var 3) .non)
def d_law_numbers : Fd := ⟨1, 4, false, (.cons (.asg false (.name 1) (.lc [2] (.name 2) (.e (.var 0)) u_law_numbers_1))
  (.cons (.ite (.bi .any (.cons (.lc [3] (.name 3) (.e (.var 1)) u_law_numbers_2) .nil))
  (.cons (.ret .non)
  .nil)
  .nil)
  (.cons (.ret (.var 1))
  .nil)))⟩
def b_law_read_vein_1 : Ss := (.cons (.apn false 1 (.bm .find (.str (txS [48, 49, 50, 51, 52, 53, 54, 55, 56, 57])) (.cons (.var 2) .nil)))
  .nil)
def b_law_read_vein_2 : Ss := (.cons (.asg false (.name 5) (.call k_law_numbers (.cons (.bm .split (.var 4) (.cons (.str (txS [44])) .nil)) .nil)))
  (.cons (.ite (.or (.cmp .isN (.var 5) .non) (.cmp .ne (.bi .len (.cons (.var 5) .nil)) (.int 2)))
  (.cons (.ret .non)
  .nil)
  .nil)
  (.cons (.apn false 3 (.bi .tuple (.cons (.var 5) .nil)))
  .nil)))
def u_law_read_vein_3 : E := (.cmp .lt (.var 6) (.int 0))
def d_law_read_vein : Fd := ⟨1, 7, false, (.cons (.ite (.or (.cmp .lt (.bi .len (.cons (.var 0) .nil)) (.int 3)) (.cmp .eq (.ix (.var 0) (.int 1)) (.str (txS []))))
  (.cons (.ret .non)
  .nil)
  .nil)
  (.cons (.own false 1 (.lst .nil))
  (.cons (.ite (.cmp .ne (.ix (.var 0) (.int 1)) (.str (txS [45])))
  (.cons (.fr false (.name 2) (.e (.ix (.var 0) (.int 1))) b_law_read_vein_1)
  .nil)
  .nil)
  (.cons (.frz 1)
  (.cons (.own false 3 (.lst .nil))
  (.cons (.fr false (.name 4) (.e (.slA (.var 0) (.int 2))) b_law_read_vein_2)
  (.cons (.frz 3)
  (.cons (.ite (.bi .any (.cons (.lc [6] (.name 6) (.e (.var 1)) u_law_read_vein_3) .nil))
  (.cons (.ret .non)
  .nil)
  .nil)
  (.cons (.ret (.tup (.cons (.str (txS [118, 101, 105, 110])) (.cons (.bi .tuple (.cons (.var 1) .nil)) (.cons (.bi .tuple (.cons (.var 3) .nil)) .nil)))))
  .nil)))))))))⟩
def d_law_read : Fd := ⟨1, 3, false, (.cons (.ite (.cmp .eq (.ix (.var 0) (.int 0)) (.str (txS [118, 101, 105, 110])))
  (.cons (.ret (.call k_law_read_vein (.cons (.var 0) .nil)))
  .nil)
  .nil)
  (.cons (.asg false (.name 1) (.call k_law_bounds (.cons (.tup (.cons (.int 1) (.cons (.int 1) (.cons (.int 1) .nil)))) (.cons (.ix (.var 0) (.int 0)) .nil))))
  (.cons (.asg false (.name 2) (.call k_law_numbers (.cons (.slA (.var 0) (.int 1)) .nil)))
  (.cons (.ite (.or (.cmp .isN (.var 1) .non) (.or (.cmp .isN (.var 2) .non) (.cmp .ne (.bi .len (.cons (.var 2) .nil)) (.bi .len (.cons (.var 1) .nil)))))
  (.cons (.ret .non)
  .nil)
  .nil)
  (.cons (.ret (.bin .add (.tup (.cons (.ix (.var 0) (.int 0)) .nil)) (.bi .tuple (.cons (.var 2) .nil))))
  .nil)))))⟩
def u_law_written_1 : E := (.bi .str (.cons (.var 1) .nil))
def u_law_written_2 : E := (.bi .str (.cons (.var 3) .nil))
def u_law_written_3 : E := (.bin .add (.bin .add (.bi .str (.cons (.ix (.var 4) (.int 0)) .nil)) (.str (txS [44]))) (.bi .str (.cons (.ix (.var 4) (.int 1)) .nil)))
def d_law_written : Fd := ⟨1, 5, false, (.cons (.ite (.cmp .ne (.ix (.var 0) (.int 0)) (.str (txS [118, 101, 105, 110])))
  (.cons (.ret (.bm .join (.str (txS [32])) (.cons (.bin .add (.lst (.cons (.ix (.var 0) (.int 0)) .nil)) (.lc [1] (.name 1) (.e (.slA (.var 0) (.int 1))) u_law_written_1)) .nil)))
  .nil)
  .nil)
  (.cons (.asg false (.name 2) (.bm .join (.str (txS [])) (.cons (.lc [3] (.name 3) (.e (.ix (.var 0) (.int 1))) u_law_written_2) .nil)))
  (.cons (.ite (.cmp .eq (.bi .len (.cons (.ix (.var 0) (.int 1)) .nil)) (.int 0))
  (.cons (.asg false (.name 2) (.str (txS [45])))
  .nil)
  .nil)
  (.cons (.ret (.bm .join (.str (txS [32])) (.cons (.bin .add (.lst (.cons (.str (txS [118, 101, 105, 110])) (.cons (.var 2) .nil))) (.lc [4] (.name 4) (.e (.ix (.var 0) (.int 2))) u_law_written_3)) .nil)))
  .nil))))⟩
def d_law_bent : Fd := ⟨4, 8, false, (.cons (.asg false (.name 4) (.call k_law_draw (.cons (.var 0) (.cons (.var 1) (.cons (.var 2) (.cons (.bin .add (.bi .len (.cons (.var 3) .nil)) (.int 1)) .nil))))))
  (.cons (.asg false (.name 5) (.str (txS [32, 48, 49, 50, 51, 52, 53, 54, 55, 56, 57, 44, 45, 43, 46, 95, 126, 97, 101, 104, 105, 106, 107, 110, 111, 112, 114, 115, 116, 117, 118, 119, 120, 121, 122, 10, 65])))
  (.cons (.asg false (.name 6) (.ix (.var 5) (.call k_law_draw (.cons (.var 0) (.cons (.var 1) (.cons (.bin .add (.var 2) (.int 1)) (.cons (.bi .len (.cons (.var 5) .nil)) .nil)))))))
  (.cons (.asg false (.name 7) (.call k_law_draw (.cons (.var 0) (.cons (.var 1) (.cons (.bin .add (.var 2) (.int 2)) (.cons (.int 6) .nil))))))
  (.cons (.ite (.cmp .eq (.var 7) (.int 0))
  (.cons (.ret (.bin .add (.bin .add (.slB (.var 3) (.var 4)) (.var 6)) (.slA (.var 3) (.var 4))))
  .nil)
  .nil)
  (.cons (.ite (.cmp .eq (.var 7) (.int 1))
  (.cons (.ret (.bin .add (.slB (.var 3) (.var 4)) (.slA (.var 3) (.bin .add (.var 4) (.int 1)))))
  .nil)
  .nil)
  (.cons (.ite (.cmp .eq (.var 7) (.int 2))
  (.cons (.ret (.bin .add (.bin .add (.slB (.var 3) (.var 4)) (.var 6)) (.slA (.var 3) (.bin .add (.var 4) (.int 1)))))
  .nil)
  .nil)
  (.cons (.ite (.cmp .eq (.var 7) (.int 3))
  (.cons (.ret (.slB (.var 3) (.var 4)))
  .nil)
  .nil)
  (.cons (.ite (.cmp .eq (.var 7) (.int 4))
  (.cons (.ret (.slA (.var 3) (.var 4)))
  .nil)
  .nil)
  (.cons (.ret (.bin .add (.var 3) (.ix (.lst (.cons (.str (txS [32])) (.cons (.str (txS [10])) (.cons (.str (txS [32, 48])) (.cons (.str (txS [48])) (.cons (.str (txS [44, 49])) .nil)))))) (.call k_law_draw (.cons (.var 0) (.cons (.var 1) (.cons (.bin .add (.var 2) (.int 3)) (.cons (.int 5) .nil))))))))
  .nil))))))))))⟩
def d_law_told : Fd := ⟨1, 2, false, (.cons (.asg false (.name 1) .non)
  (.cons (.tr (.cons (.asg false (.name 1) (.call k_read_fact (.cons (.var 0) .nil)))
  .nil)
  (.two x_BadFact x_BadNumber
  (.cons (.asg false (.name 1) (.tup (.cons (.str (txS [119, 114, 111, 110, 103])) .nil)))
  .nil)
  (.cons x_BadText
  (.cons (.asg false (.name 1) .non)
  .nil)
  (.cons x_DiprightError
  (.cons (.asg false (.name 1) (.tup (.cons (.str (txS [119, 114, 111, 110, 103])) .nil)))
  .nil)
  .nil))))
  (.cons (.ret (.var 1))
  .nil)))⟩
def b_law_k08_1 : Ss := (.cons (.asg false (.name 2) (.call k_law_bent (.cons (.var 0) (.cons (.bin .add (.int 3) (.var 4)) (.cons (.int 0) (.cons (.var 2) .nil))))))
  .nil)
def d_law_k08 : Fd := ⟨1, 7, false, (.cons (.asg false (.name 1) (.call k_law_some_fact (.cons (.var 0) (.cons (.int 1) (.cons (.call k_law_size (.cons (.var 0) (.cons (.int 0) .nil))) .nil)))))
  (.cons (.asg false (.name 2) (.call k_law_written (.cons (.var 1) .nil)))
  (.cons (.asg false (.name 3) (.lst (.cons (.str (txS [])) (.cons (.str (txS [32])) (.cons (.str (txS [118, 101, 105, 110])) (.cons (.str (txS [118, 101, 105, 110, 32, 45, 32])) (.cons (.str (txS [118, 101, 105, 110, 32, 48, 32, 49])) (.cons (.str (txS [118, 101, 105, 110, 32, 48])) (.cons (.str (txS [118, 101, 105, 110, 32, 45, 32, 49, 44, 50, 44, 51])) (.cons (.str (txS [118, 101, 105, 110, 32, 45, 45, 32, 49, 44, 50])) (.cons (.str (txS [118, 101, 105, 110, 32, 48, 48, 32, 49, 44])) .nil)))))))))))
  (.cons (.asg false (.name 3) (.bin .add (.var 3) (.lst (.cons (.str (txS [119, 111, 114, 107])) (.cons (.str (txS [87, 111, 114, 107, 32, 51])) (.cons (.str (txS [118, 101, 105, 110, 32, 32, 49, 44, 50])) .nil))))))
  (.cons (.asg false (.name 3) (.bin .add (.var 3) (.lst (.cons (.str (txS [119, 111, 114, 107, 115, 32, 51])) (.cons (.str (txS [119, 111, 114, 107, 32, 48, 51])) (.cons (.str (txS [119, 111, 114, 107, 32, 51, 32])) (.cons (.str (txS [32, 119, 111, 114, 107, 32, 51])) (.cons (.str (txS [119, 111, 114, 107, 32, 32, 51])) (.cons (.str (txS [119, 111, 114, 107, 32, 51, 32, 52])) (.cons (.str (txS [103, 105, 118, 101, 32, 45, 51])) (.cons (.str (txS [112, 97, 121, 32, 49, 32, 50])) (.cons (.str (txS [118, 101, 105, 110, 32, 53, 32, 48, 49, 44, 50])) .nil))))))))))))
  (.cons (.ite (.cmp .eq (.call k_law_draw (.cons (.var 0) (.cons (.int 2) (.cons (.int 20) (.cons (.int 8) .nil))))) (.int 0))
  (.cons (.asg false (.name 2) (.ix (.var 3) (.call k_law_draw (.cons (.var 0) (.cons (.int 2) (.cons (.int 21) (.cons (.bi .len (.cons (.var 3) .nil)) .nil)))))))
  .nil)
  .nil)
  (.cons (.fr false (.name 4) (.rg1 (.call k_law_draw (.cons (.var 0) (.cons (.int 2) (.cons (.int 22) (.cons (.int 3) .nil)))))) b_law_k08_1)
  (.cons (.asg false (.name 5) (.call k_law_read (.cons (.bm .split (.var 2) (.cons (.str (txS [32])) .nil)) .nil)))
  (.cons (.asg false (.name 6) (.call k_law_told (.cons (.var 2) .nil)))
  (.cons (.ite (.cmp .isN (.var 5) .non)
  (.cons (.ret (.cmp .isN (.var 6) .non))
  .nil)
  .nil)
  (.cons (.ret (.call k_law_same (.cons (.var 6) (.cons (.var 5) .nil))))
  .nil)))))))))))⟩
def tabF : List (Nat × Fd) := [(k_number, d_number), (k_numbers_of, d_numbers_of), (k_figure, d_figure), (k_steps_of, d_steps_of), (k_cell_of, d_cell_of), (k_read_vein, d_read_vein), (k_read_words, d_read_words), (k_read_fact, d_read_fact), (k_law_draw, d_law_draw), (k_law_same, d_law_same), (k_law_size, d_law_size), (k_law_rect, d_law_rect), (k_law_steps, d_law_steps), (k_law_outs, d_law_outs), (k_law_who, d_law_who), (k_law_pick, d_law_pick), (k_law_vein, d_law_vein), (k_law_claim_fact, d_law_claim_fact), (k_law_fact, d_law_fact), (k_law_dig, d_law_dig), (k_law_pay, d_law_pay), (k_law_bounds, d_law_bounds), (k_law_some_fact, d_law_some_fact), (k_law_number, d_law_number), (k_law_numbers, d_law_numbers), (k_law_read_vein, d_law_read_vein), (k_law_read, d_law_read), (k_law_written, d_law_written), (k_law_bent, d_law_bent), (k_law_told, d_law_told), (k_law_k08, d_law_k08)]
def tabG : List (Str × D) := [("FIGURES", .str (txS [48, 49, 50, 51, 52, 53, 54, 55, 56, 57])), ("LENGTHS", .dck [(txS [118, 101, 105, 110]), (txS [106, 111, 105, 110]), (txS [115, 116, 97, 107, 101]), (txS [119, 111, 114, 107]), (txS [115, 101, 108, 108]), (txS [112, 97, 114, 116]), (txS [103, 105, 118, 101]), (txS [100, 105, 103]), (txS [112, 97, 121])] [.int (3), .int (4), .int (6), .int (2), .int (3), .int (5), .int (2), .int (8), .int (4)])]
def tabM : List ((Nat × Str) × Nat) := []
def tabI : List (Nat × Nat) := []
def tabS : List ((Nat × Nat) × Bool) := [((x_BadFact, x_BadText), false), ((x_BadNumber, x_BadText), false), ((x_BadText, x_BadText), true)]
def TAB : Pg := ⟨fun i => tabF.lookup i, fun c m => tabM.lookup (c, m), fun c => tabI.lookup c, fun x => tabG.lookup x, fun j k => tabS.lookup (j, k)⟩
theorem t_number : TAB.fn k_number = some d_number := rfl
theorem t_numbers_of : TAB.fn k_numbers_of = some d_numbers_of := rfl
theorem t_figure : TAB.fn k_figure = some d_figure := rfl
theorem t_steps_of : TAB.fn k_steps_of = some d_steps_of := rfl
theorem t_cell_of : TAB.fn k_cell_of = some d_cell_of := rfl
theorem t_read_vein : TAB.fn k_read_vein = some d_read_vein := rfl
theorem t_read_words : TAB.fn k_read_words = some d_read_words := rfl
theorem t_read_fact : TAB.fn k_read_fact = some d_read_fact := rfl
theorem t_law_draw : TAB.fn k_law_draw = some d_law_draw := rfl
theorem t_law_same : TAB.fn k_law_same = some d_law_same := rfl
theorem t_law_size : TAB.fn k_law_size = some d_law_size := rfl
theorem t_law_rect : TAB.fn k_law_rect = some d_law_rect := rfl
theorem t_law_steps : TAB.fn k_law_steps = some d_law_steps := rfl
theorem t_law_outs : TAB.fn k_law_outs = some d_law_outs := rfl
theorem t_law_who : TAB.fn k_law_who = some d_law_who := rfl
theorem t_law_pick : TAB.fn k_law_pick = some d_law_pick := rfl
theorem t_law_vein : TAB.fn k_law_vein = some d_law_vein := rfl
theorem t_law_claim_fact : TAB.fn k_law_claim_fact = some d_law_claim_fact := rfl
theorem t_law_fact : TAB.fn k_law_fact = some d_law_fact := rfl
theorem t_law_dig : TAB.fn k_law_dig = some d_law_dig := rfl
theorem t_law_pay : TAB.fn k_law_pay = some d_law_pay := rfl
theorem t_law_bounds : TAB.fn k_law_bounds = some d_law_bounds := rfl
theorem t_law_some_fact : TAB.fn k_law_some_fact = some d_law_some_fact := rfl
theorem t_law_number : TAB.fn k_law_number = some d_law_number := rfl
theorem t_law_numbers : TAB.fn k_law_numbers = some d_law_numbers := rfl
theorem t_law_read_vein : TAB.fn k_law_read_vein = some d_law_read_vein := rfl
theorem t_law_read : TAB.fn k_law_read = some d_law_read := rfl
theorem t_law_written : TAB.fn k_law_written = some d_law_written := rfl
theorem t_law_bent : TAB.fn k_law_bent = some d_law_bent := rfl
theorem t_law_told : TAB.fn k_law_told = some d_law_told := rfl
theorem t_law_k08 : TAB.fn k_law_k08 = some d_law_k08 := rfl
theorem g_FIGURES : TAB.gv "FIGURES" = some (.str (txS [48, 49, 50, 51, 52, 53, 54, 55, 56, 57])) := rfl
theorem g_LENGTHS : TAB.gv "LENGTHS" = some (.dck [(txS [118, 101, 105, 110]), (txS [106, 111, 105, 110]), (txS [115, 116, 97, 107, 101]), (txS [119, 111, 114, 107]), (txS [115, 101, 108, 108]), (txS [112, 97, 114, 116]), (txS [103, 105, 118, 101]), (txS [100, 105, 103]), (txS [112, 97, 121])] [.int (3), .int (4), .int (6), .int (2), .int (3), .int (5), .int (2), .int (8), .int (4)]) := rfl
theorem x_BadFact_BadText : TAB.sub x_BadFact x_BadText = some false := rfl
theorem x_BadNumber_BadText : TAB.sub x_BadNumber x_BadText = some false := rfl
theorem x_BadText_BadText : TAB.sub x_BadText x_BadText = some true := rfl
abbrev lvl : Nat := 60
end Pl
namespace Pl
open PySem PySem.Spec
open PyProof.Rows hiding St
open L2
def tabN : List (Nat × (Str × Option Str)) := [(k_number, (("number" : Str), (none : Option Str))), (k_numbers_of, (("numbers_of" : Str), (none : Option Str))), (k_figure, (("figure" : Str), (none : Option Str))), (k_steps_of, (("steps_of" : Str), (none : Option Str))), (k_cell_of, (("cell_of" : Str), (none : Option Str))), (k_read_vein, (("read_vein" : Str), (none : Option Str))), (k_read_words, (("read_words" : Str), (none : Option Str))), (k_read_fact, (("read_fact" : Str), (none : Option Str))), (k_law_draw, (("_law_draw" : Str), (none : Option Str))), (k_law_same, (("_law_same" : Str), (none : Option Str))), (k_law_size, (("_law_size" : Str), (none : Option Str))), (k_law_rect, (("_law_rect" : Str), (none : Option Str))), (k_law_steps, (("_law_steps" : Str), (none : Option Str))), (k_law_outs, (("_law_outs" : Str), (none : Option Str))), (k_law_who, (("_law_who" : Str), (none : Option Str))), (k_law_pick, (("_law_pick" : Str), (none : Option Str))), (k_law_vein, (("_law_vein" : Str), (none : Option Str))), (k_law_claim_fact, (("_law_claim_fact" : Str), (none : Option Str))), (k_law_fact, (("_law_fact" : Str), (none : Option Str))), (k_law_dig, (("_law_dig" : Str), (none : Option Str))), (k_law_pay, (("_law_pay" : Str), (none : Option Str))), (k_law_bounds, (("_law_bounds" : Str), (none : Option Str))), (k_law_some_fact, (("_law_some_fact" : Str), (none : Option Str))), (k_law_number, (("_law_number" : Str), (none : Option Str))), (k_law_numbers, (("_law_numbers" : Str), (none : Option Str))), (k_law_read_vein, (("_law_read_vein" : Str), (none : Option Str))), (k_law_read, (("_law_read" : Str), (none : Option Str))), (k_law_written, (("_law_written" : Str), (none : Option Str))), (k_law_bent, (("_law_bent" : Str), (none : Option Str))), (k_law_told, (("_law_told" : Str), (none : Option Str))), (k_law_k08, (("law" : Str), (none : Option Str)))]
def tabC : List (Nat × Str) := []
def tabX : List (Nat × Str) := [(x_DiprightError, "DiprightError"), (x_BadNumber, "BadNumber"), (x_BadFact, "BadFact"), (x_BadText, "BadText")]
def flds : List Str := []
def tbF : Nat → Option Str := fun i => match tabN.lookup i with
  | some (x, none) => some x
  | _ => none
def top (i : Nat) : Stmt := PySem.Challenge.pw_dipright_k08_facts_read_or_refused.main.body.getD i (.Pass ⟨0, 0, 0, 0⟩)
def e_number : He.DefD := ⟨(("number" : Str), (none : Option Str)), "number", "number", defArgs (top 8), defBody (top 8), defScope (top 8), [], []⟩
def e_numbers_of : He.DefD := ⟨(("numbers_of" : Str), (none : Option Str)), "numbers_of", "numbers_of", defArgs (top 9), defBody (top 9), defScope (top 9), [], []⟩
def e_figure : He.DefD := ⟨(("figure" : Str), (none : Option Str)), "figure", "figure", defArgs (top 10), defBody (top 10), defScope (top 10), [], []⟩
def e_steps_of : He.DefD := ⟨(("steps_of" : Str), (none : Option Str)), "steps_of", "steps_of", defArgs (top 11), defBody (top 11), defScope (top 11), [], []⟩
def e_cell_of : He.DefD := ⟨(("cell_of" : Str), (none : Option Str)), "cell_of", "cell_of", defArgs (top 12), defBody (top 12), defScope (top 12), [], []⟩
def e_read_vein : He.DefD := ⟨(("read_vein" : Str), (none : Option Str)), "read_vein", "read_vein", defArgs (top 13), defBody (top 13), defScope (top 13), [], []⟩
def e_read_words : He.DefD := ⟨(("read_words" : Str), (none : Option Str)), "read_words", "read_words", defArgs (top 14), defBody (top 14), defScope (top 14), [], []⟩
def e_read_fact : He.DefD := ⟨(("read_fact" : Str), (none : Option Str)), "read_fact", "read_fact", defArgs (top 15), defBody (top 15), defScope (top 15), [], []⟩
def e_law_draw : He.DefD := ⟨(("_law_draw" : Str), (none : Option Str)), "_law_draw", "_law_draw", defArgs (top 17), defBody (top 17), defScope (top 17), [], []⟩
def e_law_same : He.DefD := ⟨(("_law_same" : Str), (none : Option Str)), "_law_same", "_law_same", defArgs (top 18), defBody (top 18), defScope (top 18), [], []⟩
def e_law_size : He.DefD := ⟨(("_law_size" : Str), (none : Option Str)), "_law_size", "_law_size", defArgs (top 19), defBody (top 19), defScope (top 19), [], []⟩
def e_law_rect : He.DefD := ⟨(("_law_rect" : Str), (none : Option Str)), "_law_rect", "_law_rect", defArgs (top 20), defBody (top 20), defScope (top 20), [], []⟩
def e_law_steps : He.DefD := ⟨(("_law_steps" : Str), (none : Option Str)), "_law_steps", "_law_steps", defArgs (top 21), defBody (top 21), defScope (top 21), [], []⟩
def e_law_outs : He.DefD := ⟨(("_law_outs" : Str), (none : Option Str)), "_law_outs", "_law_outs", defArgs (top 22), defBody (top 22), defScope (top 22), [], []⟩
def e_law_who : He.DefD := ⟨(("_law_who" : Str), (none : Option Str)), "_law_who", "_law_who", defArgs (top 23), defBody (top 23), defScope (top 23), [], []⟩
def e_law_pick : He.DefD := ⟨(("_law_pick" : Str), (none : Option Str)), "_law_pick", "_law_pick", defArgs (top 24), defBody (top 24), defScope (top 24), [], []⟩
def e_law_vein : He.DefD := ⟨(("_law_vein" : Str), (none : Option Str)), "_law_vein", "_law_vein", defArgs (top 25), defBody (top 25), defScope (top 25), [], []⟩
def e_law_claim_fact : He.DefD := ⟨(("_law_claim_fact" : Str), (none : Option Str)), "_law_claim_fact", "_law_claim_fact", defArgs (top 26), defBody (top 26), defScope (top 26), [], []⟩
def e_law_fact : He.DefD := ⟨(("_law_fact" : Str), (none : Option Str)), "_law_fact", "_law_fact", defArgs (top 27), defBody (top 27), defScope (top 27), [], []⟩
def e_law_dig : He.DefD := ⟨(("_law_dig" : Str), (none : Option Str)), "_law_dig", "_law_dig", defArgs (top 28), defBody (top 28), defScope (top 28), [], []⟩
def e_law_pay : He.DefD := ⟨(("_law_pay" : Str), (none : Option Str)), "_law_pay", "_law_pay", defArgs (top 29), defBody (top 29), defScope (top 29), [], []⟩
def e_law_bounds : He.DefD := ⟨(("_law_bounds" : Str), (none : Option Str)), "_law_bounds", "_law_bounds", defArgs (top 30), defBody (top 30), defScope (top 30), [], []⟩
def e_law_some_fact : He.DefD := ⟨(("_law_some_fact" : Str), (none : Option Str)), "_law_some_fact", "_law_some_fact", defArgs (top 31), defBody (top 31), defScope (top 31), [], []⟩
def e_law_number : He.DefD := ⟨(("_law_number" : Str), (none : Option Str)), "_law_number", "_law_number", defArgs (top 32), defBody (top 32), defScope (top 32), [], []⟩
def e_law_numbers : He.DefD := ⟨(("_law_numbers" : Str), (none : Option Str)), "_law_numbers", "_law_numbers", defArgs (top 33), defBody (top 33), defScope (top 33), [], []⟩
def e_law_read_vein : He.DefD := ⟨(("_law_read_vein" : Str), (none : Option Str)), "_law_read_vein", "_law_read_vein", defArgs (top 34), defBody (top 34), defScope (top 34), [], []⟩
def e_law_read : He.DefD := ⟨(("_law_read" : Str), (none : Option Str)), "_law_read", "_law_read", defArgs (top 35), defBody (top 35), defScope (top 35), [], []⟩
def e_law_written : He.DefD := ⟨(("_law_written" : Str), (none : Option Str)), "_law_written", "_law_written", defArgs (top 36), defBody (top 36), defScope (top 36), [], []⟩
def e_law_bent : He.DefD := ⟨(("_law_bent" : Str), (none : Option Str)), "_law_bent", "_law_bent", defArgs (top 37), defBody (top 37), defScope (top 37), [], []⟩
def e_law_told : He.DefD := ⟨(("_law_told" : Str), (none : Option Str)), "_law_told", "_law_told", defArgs (top 38), defBody (top 38), defScope (top 38), [], []⟩
def e_law_k08 : He.DefD := ⟨(("law" : Str), (none : Option Str)), "law", "law", defArgs (top 39), defBody (top 39), defScope (top 39), [], []⟩
def defs : List He.DefD := [e_number, e_numbers_of, e_figure, e_steps_of, e_cell_of, e_read_vein, e_read_words, e_read_fact, e_law_draw, e_law_same, e_law_size, e_law_rect, e_law_steps, e_law_outs, e_law_who, e_law_pick, e_law_vein, e_law_claim_fact, e_law_fact, e_law_dig, e_law_pay, e_law_bounds, e_law_some_fact, e_law_number, e_law_numbers, e_law_read_vein, e_law_read, e_law_written, e_law_bent, e_law_told, e_law_k08]
def faG : List He.Fa := [.glo "number", .glo "numbers_of", .glo "figure", .glo "steps_of", .glo "cell_of", .glo "read_vein", .glo "read_words", .glo "read_fact", .glo "_law_draw", .glo "_law_same", .glo "_law_size", .glo "_law_rect", .glo "_law_steps", .glo "_law_outs", .glo "_law_who", .glo "_law_pick", .glo "_law_vein", .glo "_law_claim_fact", .glo "_law_fact", .glo "_law_dig", .glo "_law_pay", .glo "_law_bounds", .glo "_law_some_fact", .glo "_law_number", .glo "_law_numbers", .glo "_law_read_vein", .glo "_law_read", .glo "_law_written", .glo "_law_bent", .glo "_law_told", .glo "law", .glo "DiprightError", .glo "BadNumber", .glo "BadFact", .glo "BadText"]
def faB : List He.Fa := bNames.map He.Fa.free
def faC : List He.Fa := tabC.flatMap fun p => .cls p.2 :: .mkr p.2 :: flds.map (He.Fa.noat p.2)
def faM : List He.Fa := tabM.map fun p => .meth ((tabC.lookup p.1.1).getD "") p.1.2
def faX : List He.Fa := tabX.map fun p => .exc p.2
def faS : List He.Fa := tabS.map fun p => .exm ((tabX.lookup p.1.2).getD "") ((tabX.lookup p.1.1).getD "") p.2
def fa : List He.Fa := faG ++ (faB ++ (faC ++ (faM ++ (faX ++ faS))))
def tabs : List He.Tab := [(fun K => He.ga K "LENGTHS", ([(txS [118, 101, 105, 110]), (txS [106, 111, 105, 110]), (txS [115, 116, 97, 107, 101]), (txS [119, 111, 114, 107]), (txS [115, 101, 108, 108]), (txS [112, 97, 114, 116]), (txS [103, 105, 118, 101]), (txS [100, 105, 103]), (txS [112, 97, 121])] : List Str))]
def exB (K : PySem.W.Frag) : Bool := gvAll (fun f => He.fAd K ((tabN.lookup f).getD ("", none))) K tabG
abbrev Ro : PySem.W.OpenRow := PySem.W.OpenLaw.row PySem.Challenge.rw_dipright_k08_facts_read_or_refused
abbrev hk : PySem.W.Hook := He.hookX 4 fa defs tabs [] exB
def ob (s : PySem.W.SharedT) : He.AlX := He.obsX 4 fa defs tabs [] exB (HandSHeadRun.getT s)
theorem ob_eq (s : PySem.W.SharedT) : ob s = hk.obs s.abs := He.obsX_eq (HandSHeadRun.getT_eq s)
def hpDown : Nat → List Addr
  | 0 => []
  | n + 1 => n :: hpDown n
def hkH : PySem.W.Hook where
  α := He.AlX
  obs := fun s => (fun K : PySem.W.Frag => (He.obsT fa defs tabs K, exB K)) (He.frT s.heap.get? (mainGlobals :: hpDown s.heap.objs.size))
  val := fun w => He.valX defs tabs w
  says := hk.says
  of := fun w s e => ⟨_, He.frT_in, congrArg (fun z : He.AlX => z.1) e, congrArg (fun z : He.AlX => z.2) e, fun p hp => absurd hp List.not_mem_nil, fun p hp => absurd hp List.not_mem_nil, fun p hp => absurd hp List.not_mem_nil⟩
  keeps := hk.keeps
def obH (s : PySem.W.SharedT) : He.AlX := (fun K : PySem.W.Frag => (He.obsT fa defs tabs K, exB K)) (He.frT (HandSHeadRun.getT s) (mainGlobals :: hpDown s.n))
theorem obH_eq (s : PySem.W.SharedT) : obH s = hkH.obs s.abs := by
  have e : HandSHeadRun.getT s = s.abs.heap.get? := funext (HandSHeadRun.getT_eq s)
  have n : s.abs.heap.objs.size = s.n := PySem.W.absHeap_size _ _ _
  show _ = (fun K : PySem.W.Frag => (He.obsT fa defs tabs K, exB K)) (He.frT s.abs.heap.get? (mainGlobals :: hpDown s.abs.heap.objs.size))
  rw [n, ← e]
  rfl
def kOf (s : PySem.W.SharedT) : PySem.W.Frag := He.frT (HandSHeadRun.getT s) (mainGlobals :: hpDown s.n)
def faN1 : Nat := fa.length * 80 / 100
def deN1 : Nat := defs.length * 18 / 100
def deN2 : Nat := defs.length * 22 / 100
def deN3 : Nat := defs.length * 25 / 100
def de1 : List He.DefD := defs.take deN1
def de2 : List He.DefD := (defs.drop deN1).take deN2
def de3 : List He.DefD := ((defs.drop deN1).drop deN2).take deN3
def de4 : List He.DefD := ((defs.drop deN1).drop deN2).drop deN3
def obA1 (s : PySem.W.SharedT) : Bool := (fa.take faN1).all fun f => f.ok (kOf s)
def obA2 (s : PySem.W.SharedT) : Bool := (fa.drop faN1).all fun f => f.ok (kOf s)
def obB1 (s : PySem.W.SharedT) : Bool × List He.FnW := (fun K : PySem.W.Frag => (de1.all fun d => d.ok K, de1.map fun d => He.fnW K d.at_)) (kOf s)
def obB2 (s : PySem.W.SharedT) : Bool × List He.FnW := (fun K : PySem.W.Frag => (de2.all fun d => d.ok K, de2.map fun d => He.fnW K d.at_)) (kOf s)
def obB3 (s : PySem.W.SharedT) : Bool × List He.FnW := (fun K : PySem.W.Frag => (de3.all fun d => d.ok K, de3.map fun d => He.fnW K d.at_)) (kOf s)
def obB4 (s : PySem.W.SharedT) : Bool × List He.FnW := (fun K : PySem.W.Frag => (de4.all fun d => d.ok K, de4.map fun d => He.fnW K d.at_)) (kOf s)
def obC (s : PySem.W.SharedT) : List (Option (List (Option (Str × Int)))) × Bool := (fun K : PySem.W.Frag => (tabs.map fun t => He.dicW K (t.1 K), exB K)) (kOf s)
theorem all_cut {α : Type} {p : α → Bool} (n : Nat) {l : List α} (h : (l.take n).all p = true) (k : (l.drop n).all p = true) : l.all p = true := by
  rw [← List.take_append_drop n l, List.all_append, Bool.and_eq_true]
  exact ⟨h, k⟩
theorem map_cut {α β : Type} {f g : α → β} (n : Nat) {l : List α} (h : (l.take n).map f = (l.take n).map g) (k : (l.drop n).map f = (l.drop n).map g) : l.map f = l.map g := by
  rw [← List.take_append_drop n l, List.map_append, List.map_append, h, k]
theorem map_join {β : Type} {E : Option PySem.W.SharedT} {w : World} {f : PySem.W.SharedT → Bool} {g : PySem.W.SharedT → β} {b : β} (h0 : E.map f = some true) (h1 : E.map obC = some (tabs.map (fun t => some (He.keysIn w.params t.2)), true)) (h2 : E.map g = some b) (h3 : E.map obA1 = some true) (h7 : E.map obA2 = some true) (h4 : E.map obB1 = some (true, de1.map He.DefD.val)) (h5 : E.map obB2 = some (true, de2.map He.DefD.val)) (h9 : E.map obB3 = some (true, de3.map He.DefD.val)) (h10 : E.map obB4 = some (true, de4.map He.DefD.val)) : E.map (fun s => (f s, g s, obH s)) = some (true, b, hkH.val w) := by
  cases E with
  | none => cases h2
  | some s =>
    have h0 : f s = true := Option.some.inj h0
    have h6 := Prod.mk.inj (Option.some.inj h1)
    have h2 : g s = b := Option.some.inj h2
    have h3 : (fa.all fun f => f.ok (kOf s)) = true := all_cut faN1 (Option.some.inj h3) (Option.some.inj h7)
    have h4 := Prod.mk.inj (Option.some.inj h4)
    have h5 := Prod.mk.inj (Option.some.inj h5)
    have h9 := Prod.mk.inj (Option.some.inj h9)
    have h10 := Prod.mk.inj (Option.some.inj h10)
    have e1 : (defs.all fun d => d.ok (kOf s)) = true := all_cut deN1 h4.1 (all_cut deN2 h5.1 (all_cut deN3 h9.1 h10.1))
    have e2 : (defs.map fun d => He.fnW (kOf s) d.at_) = defs.map He.DefD.val := map_cut deN1 h4.2 (map_cut deN2 h5.2 (map_cut deN3 h9.2 h10.2))
    have e3 : obH s = hkH.val w := by
      show (((((fa.all fun f => f.ok (kOf s)) && defs.all fun d => d.ok (kOf s)), defs.map fun d => He.fnW (kOf s) d.at_), tabs.map fun t => He.dicW (kOf s) (t.1 (kOf s))), exB (kOf s)) = _
      rw [h3, e1, e2, h6.1, h6.2]
      rfl
    exact congrArg some (Prod.ext h0 (Prod.ext h2 e3))
theorem same_of {E0 E1 : Option PySem.W.SharedT} {d : PySem.W.SharedT} {f : PySem.W.SharedT → Bool} (h : E1 = some (E0.getD d)) (h0 : E0.map f = some true) : E1 = E0 := by
  cases E0 with
  | none => cases h0
  | some s => exact h
theorem runL0 (w : World) (os : OsState) : (HandSHeadRun.endF (HandSHeadRun.stepQ (HandSHeadRun.denQ HandSHeadRun.tabQ) Ro.prog (w.withFollow "special-get-raises" false)) 7100 Ro.prog (w.withFollow "special-get-raises" false) os).map (fun s => HandSHeadRun.looksF Ro.prog (PySem.W.boot_heap (w.withFollow "special-get-raises" false).params) s.abs) = some true := by kernel_rfl
theorem runC0 (w : World) (os : OsState) : (HandSHeadRun.endF (HandSHeadRun.stepQ (HandSHeadRun.denQ HandSHeadRun.tabQ) Ro.prog (w.withFollow "special-get-raises" false)) 7100 Ro.prog (w.withFollow "special-get-raises" false) os).map obC = some (tabs.map (fun t => some (He.keysIn (w.withFollow "special-get-raises" false).params t.2)), true) := by kernel_rfl
theorem runB10 (w : World) (os : OsState) : (HandSHeadRun.endF (HandSHeadRun.stepQ (HandSHeadRun.denQ HandSHeadRun.tabQ) Ro.prog (w.withFollow "special-get-raises" false)) 7100 Ro.prog (w.withFollow "special-get-raises" false) os).map obB1 = some (true, de1.map He.DefD.val) := by kernel_rfl
theorem runB20 (w : World) (os : OsState) : (HandSHeadRun.endF (HandSHeadRun.stepQ (HandSHeadRun.denQ HandSHeadRun.tabQ) Ro.prog (w.withFollow "special-get-raises" false)) 7100 Ro.prog (w.withFollow "special-get-raises" false) os).map obB2 = some (true, de2.map He.DefD.val) := by kernel_rfl
theorem runB30 (w : World) (os : OsState) : (HandSHeadRun.endF (HandSHeadRun.stepQ (HandSHeadRun.denQ HandSHeadRun.tabQ) Ro.prog (w.withFollow "special-get-raises" false)) 7100 Ro.prog (w.withFollow "special-get-raises" false) os).map obB3 = some (true, de3.map He.DefD.val) := by kernel_rfl
theorem runB40 (w : World) (os : OsState) : (HandSHeadRun.endF (HandSHeadRun.stepQ (HandSHeadRun.denQ HandSHeadRun.tabQ) Ro.prog (w.withFollow "special-get-raises" false)) 7100 Ro.prog (w.withFollow "special-get-raises" false) os).map obB4 = some (true, de4.map He.DefD.val) := by kernel_rfl
theorem runS0 (w : World) (os : OsState) : (HandSHeadRun.endF (HandSHeadRun.stepQ (HandSHeadRun.denQ HandSHeadRun.tabQ) Ro.prog (w.withFollow "special-get-raises" false)) 7100 Ro.prog (w.withFollow "special-get-raises" false) os).map (fun s => HandSHeadRun.seenQ (PySem.W.view Ro.prog [39]) [("DiprightError" : Str), ("BadNumber" : Str), ("BadFact" : Str), ("BadText" : Str), ("LENGTHS" : Str), ("FIGURES" : Str), ("number" : Str), ("numbers_of" : Str), ("figure" : Str), ("steps_of" : Str), ("cell_of" : Str), ("read_vein" : Str), ("read_words" : Str), ("read_fact" : Str), ("_law_draw" : Str), ("_law_same" : Str), ("_law_size" : Str), ("_law_rect" : Str), ("_law_steps" : Str), ("_law_outs" : Str), ("_law_who" : Str), ("_law_pick" : Str), ("_law_vein" : Str), ("_law_claim_fact" : Str), ("_law_fact" : Str), ("_law_dig" : Str), ("_law_pay" : Str), ("_law_bounds" : Str), ("_law_some_fact" : Str), ("_law_number" : Str), ("_law_numbers" : Str), ("_law_read_vein" : Str), ("_law_read" : Str), ("_law_written" : Str), ("_law_bent" : Str), ("_law_told" : Str)] (PySem.importedModules Ro.prog.main.body) (fun s => PySem.W.xlAt (PySem.W.view Ro.prog [39]) [] s && PySem.W.recOk Ro.toRowW.records s) s.abs) = some (PySem.W.openGood (PySem.W.view Ro.prog [39]) [("DiprightError" : Str), ("BadNumber" : Str), ("BadFact" : Str), ("BadText" : Str), ("LENGTHS" : Str), ("FIGURES" : Str), ("number" : Str), ("numbers_of" : Str), ("figure" : Str), ("steps_of" : Str), ("cell_of" : Str), ("read_vein" : Str), ("read_words" : Str), ("read_fact" : Str), ("_law_draw" : Str), ("_law_same" : Str), ("_law_size" : Str), ("_law_rect" : Str), ("_law_steps" : Str), ("_law_outs" : Str), ("_law_who" : Str), ("_law_pick" : Str), ("_law_vein" : Str), ("_law_claim_fact" : Str), ("_law_fact" : Str), ("_law_dig" : Str), ("_law_pay" : Str), ("_law_bounds" : Str), ("_law_some_fact" : Str), ("_law_number" : Str), ("_law_numbers" : Str), ("_law_read_vein" : Str), ("_law_read" : Str), ("_law_written" : Str), ("_law_bent" : Str), ("_law_told" : Str)]) := by kernel_rfl
theorem runA10 (w : World) (os : OsState) : (HandSHeadRun.endF (HandSHeadRun.stepQ (HandSHeadRun.denQ HandSHeadRun.tabQ) Ro.prog (w.withFollow "special-get-raises" false)) 7100 Ro.prog (w.withFollow "special-get-raises" false) os).map obA1 = some true := by kernel_rfl
theorem runA20 (w : World) (os : OsState) : (HandSHeadRun.endF (HandSHeadRun.stepQ (HandSHeadRun.denQ HandSHeadRun.tabQ) Ro.prog (w.withFollow "special-get-raises" false)) 7100 Ro.prog (w.withFollow "special-get-raises" false) os).map obA2 = some true := by kernel_rfl
theorem side0 (w : World) (os : OsState) : (HandSHeadRun.endF (HandSHeadRun.stepQ (HandSHeadRun.denQ HandSHeadRun.tabQ) Ro.prog (w.withFollow "special-get-raises" false)) 7100 Ro.prog (w.withFollow "special-get-raises" false) os).map (fun s => (HandSHeadRun.looksF Ro.prog (PySem.W.boot_heap (w.withFollow "special-get-raises" false).params) s.abs, HandSHeadRun.seenQ (PySem.W.view Ro.prog [39]) [("DiprightError" : Str), ("BadNumber" : Str), ("BadFact" : Str), ("BadText" : Str), ("LENGTHS" : Str), ("FIGURES" : Str), ("number" : Str), ("numbers_of" : Str), ("figure" : Str), ("steps_of" : Str), ("cell_of" : Str), ("read_vein" : Str), ("read_words" : Str), ("read_fact" : Str), ("_law_draw" : Str), ("_law_same" : Str), ("_law_size" : Str), ("_law_rect" : Str), ("_law_steps" : Str), ("_law_outs" : Str), ("_law_who" : Str), ("_law_pick" : Str), ("_law_vein" : Str), ("_law_claim_fact" : Str), ("_law_fact" : Str), ("_law_dig" : Str), ("_law_pay" : Str), ("_law_bounds" : Str), ("_law_some_fact" : Str), ("_law_number" : Str), ("_law_numbers" : Str), ("_law_read_vein" : Str), ("_law_read" : Str), ("_law_written" : Str), ("_law_bent" : Str), ("_law_told" : Str)] (PySem.importedModules Ro.prog.main.body) (fun s => PySem.W.xlAt (PySem.W.view Ro.prog [39]) [] s && PySem.W.recOk Ro.toRowW.records s) s.abs, obH s)) = some (true, PySem.W.openGood (PySem.W.view Ro.prog [39]) [("DiprightError" : Str), ("BadNumber" : Str), ("BadFact" : Str), ("BadText" : Str), ("LENGTHS" : Str), ("FIGURES" : Str), ("number" : Str), ("numbers_of" : Str), ("figure" : Str), ("steps_of" : Str), ("cell_of" : Str), ("read_vein" : Str), ("read_words" : Str), ("read_fact" : Str), ("_law_draw" : Str), ("_law_same" : Str), ("_law_size" : Str), ("_law_rect" : Str), ("_law_steps" : Str), ("_law_outs" : Str), ("_law_who" : Str), ("_law_pick" : Str), ("_law_vein" : Str), ("_law_claim_fact" : Str), ("_law_fact" : Str), ("_law_dig" : Str), ("_law_pay" : Str), ("_law_bounds" : Str), ("_law_some_fact" : Str), ("_law_number" : Str), ("_law_numbers" : Str), ("_law_read_vein" : Str), ("_law_read" : Str), ("_law_written" : Str), ("_law_bent" : Str), ("_law_told" : Str)], hkH.val (w.withFollow "special-get-raises" false)) := map_join (runL0 w os) (runC0 w os) (runS0 w os) (runA10 w os) (runA20 w os) (runB10 w os) (runB20 w os) (runB30 w os) (runB40 w os)
theorem run (w : World) : HandSHeadRun.RunEq Ro (PySem.W.view Ro.prog [39]) hkH obH 7100 [("DiprightError" : Str), ("BadNumber" : Str), ("BadFact" : Str), ("BadText" : Str), ("LENGTHS" : Str), ("FIGURES" : Str), ("number" : Str), ("numbers_of" : Str), ("figure" : Str), ("steps_of" : Str), ("cell_of" : Str), ("read_vein" : Str), ("read_words" : Str), ("read_fact" : Str), ("_law_draw" : Str), ("_law_same" : Str), ("_law_size" : Str), ("_law_rect" : Str), ("_law_steps" : Str), ("_law_outs" : Str), ("_law_who" : Str), ("_law_pick" : Str), ("_law_vein" : Str), ("_law_claim_fact" : Str), ("_law_fact" : Str), ("_law_dig" : Str), ("_law_pay" : Str), ("_law_bounds" : Str), ("_law_some_fact" : Str), ("_law_number" : Str), ("_law_numbers" : Str), ("_law_read_vein" : Str), ("_law_read" : Str), ("_law_written" : Str), ("_law_bent" : Str), ("_law_told" : Str)] w :=
  PySem.W.byRow2 "special-get-raises" (P := fun w => HandSHeadRun.RunEq Ro (PySem.W.view Ro.prog [39]) hkH obH 7100 [("DiprightError" : Str), ("BadNumber" : Str), ("BadFact" : Str), ("BadText" : Str), ("LENGTHS" : Str), ("FIGURES" : Str), ("number" : Str), ("numbers_of" : Str), ("figure" : Str), ("steps_of" : Str), ("cell_of" : Str), ("read_vein" : Str), ("read_words" : Str), ("read_fact" : Str), ("_law_draw" : Str), ("_law_same" : Str), ("_law_size" : Str), ("_law_rect" : Str), ("_law_steps" : Str), ("_law_outs" : Str), ("_law_who" : Str), ("_law_pick" : Str), ("_law_vein" : Str), ("_law_claim_fact" : Str), ("_law_fact" : Str), ("_law_dig" : Str), ("_law_pay" : Str), ("_law_bounds" : Str), ("_law_some_fact" : Str), ("_law_number" : Str), ("_law_numbers" : Str), ("_law_read_vein" : Str), ("_law_read" : Str), ("_law_written" : Str), ("_law_bent" : Str), ("_law_told" : Str)] w) (fun w os => side0 w os) (fun w os => by
    have e := same_of (runSame w os) (runL0 w os)
    have p : PySem.W.boot_heap (w.withFollow "special-get-raises" true).params = PySem.W.boot_heap (w.withFollow "special-get-raises" false).params := rfl
    have v : hkH.val (w.withFollow "special-get-raises" true) = hkH.val (w.withFollow "special-get-raises" false) := rfl
    rw [e, p, v]
    exact side0 w os) w
end Pl
/-! a tuple turned about; sorted of a dict by tuples of three ints. -/
namespace HT
open PySem PySem.Spec PyProof.Rows
section
variable {prog : Program} {w : World} {A : Around} {E : Value → Shared → Prop} {s : Shared}
theorem sliceApplied_rv {sl : Addr} {vl vu vs : Value} {n : Nat} {Q : Int × Int × Nat → Shared → Prop} (hs : s.heap.IsSliceOf sl vl vu vs) (pl : IsPart vl none) (pu : IsPart vu none) (ps : IsPart vs (some (-1)))
    (h : Q ((n : Int) - 1, -1, n) s) : wpAny (model prog w) A (Builtin.Slice.sliceApplied (.ref sl) (pure (n : Int))) Q E s := by
  obtain ⟨os, hos, hcs, hds⟩ := id hs
  unfold Builtin.Slice.sliceApplied Builtin.Slice.sliceFields
  refine wpAny_bind (wpAny_bind (wpAny_field hos hds (x := vl) rfl (wpAny_bind (wpAny_field hos hds (x := vu) rfl (wpAny_bind (wpAny_field hos hds (x := vs) rfl (wpAny_pure ?_)))))))
  refine wpAny_bind (slicePart_ ps ?_)
  show wpAny _ _ (if ((-1 : Int) == 0) = true then _ else _) _ _ s
  rw [if_neg (by decide)]
  refine wpAny_bind (slicePart_ pl (wpAny_bind (slicePart_ pu (wpAny_bind (wpAny_pure ?_)))))
  show wpAny _ _ (match Builtin.Slice.sliceAdjust none none (-1) (n : Int) with | (lo, hi) => pure (lo, (-1 : Int), Builtin.Slice.slicePlaces lo hi (-1))) _ _ s
  have e1 : Builtin.Slice.sliceAdjust none none (-1) (n : Int) = ((n : Int) - 1, -1) := rfl
  rw [e1]
  show wpAny _ _ (pure ((n : Int) - 1, (-1 : Int), Builtin.Slice.slicePlaces ((n : Int) - 1) (-1) (-1))) _ _ s
  have e2 : Builtin.Slice.slicePlaces ((n : Int) - 1) (-1) (-1) = n := by
    unfold Builtin.Slice.slicePlaces
    have h1 : ¬ (-1 : Int) > 0 := by omega
    simp only [h1, if_false, Int.neg_neg, Int.ediv_one]
    split <;> omega
  rw [e2]
  exact wpAny_pure h
theorem pick_rv (xs : Array Value) : ((List.range xs.size).filterMap fun (m : Nat) => xs[((xs.size : Int) - 1 + (m : Int) * (-1)).toNat]?).toArray = xs.toList.reverse.toArray := by
  have e := PySem.W.krv_pick xs
  unfold slicePick at e
  rw [PySem.W.krv_bounds] at e
  have e : ((sliceRange ((xs.size : Int) - 1) (-1) (-1)).filterMap (xs[·]?)).toArray = _ := e
  rw [PySem.W.krv_sliceRange, List.filterMap_map] at e
  rw [← e]
  congr 1
  have key : ∀ l : List Nat, (∀ m ∈ l, m < xs.size) → l.filterMap (fun (m : Nat) => xs[((xs.size : Int) - 1 + (m : Int) * (-1)).toNat]?) = l.filterMap ((fun x => xs[x]?) ∘ fun k => xs.size - 1 - k) := fun l hl => by
    induction l with
    | nil => rfl
    | cons m l ih =>
      have e2 : ((xs.size : Int) - 1 + (m : Int) * (-1)).toNat = xs.size - 1 - m := by
        have := hl m List.mem_cons_self
        omega
      rw [List.filterMap_cons, List.filterMap_cons, ih fun k hk => hl k (List.mem_cons_of_mem _ hk), e2]
      rfl
  exact key _ fun m hm => List.mem_range.mp hm
theorem getItem_tuple_rv {t sl : Addr} {items : Array Value} {vl vu vs : Value} {Q : Value → Shared → Prop} (ht : IsTup s.heap t items) (hs : s.heap.IsSliceOf sl vl vu vs) (pl : IsPart vl none) (pu : IsPart vu none) (ps : IsPart vs (some (-1)))
    (h : Q (.ref s.heap.objs.size) { s with heap := s.heap.push { cls := .type "tuple", data := .seq items.toList.reverse.toArray } })
    (hsz : items.size ≤ sizeLine) : wpAny (model prog w) A (getItem (.ref t) (.ref sl)) Q E s := by
  have htake : sizeOk (.seq items.toList.reverse.toArray) := by
    show items.toList.reverse.toArray.size ≤ sizeLine
    rw [List.size_toArray, List.length_reverse, Array.length_toList]
    exact hsz
  obtain ⟨os, hos, hcs, hds⟩ := id hs
  have hTs : s.TypeIs (.ref sl) "slice" := ⟨os, hos, hcs⟩
  unfold getItem
  try with_reducible refine wpAny_holding ?_
  first | refine wpAny_bind (wpAny_pure ?_) | skip
  refine wpAny_bind (wpAny_sequenceKey ht.typeIs (by decide) ?_)
  refine wpAny_bind (wpAny_callSpecial?_slot (name := Str.ofString "__getitem__") ht.typeIs PyProof.Rows.slot_tuple_getitem
    (wpAny_call_entry PyProof.Rows.slot_tuple_getitem ht.typeIs entry_tuple_getitem ?_ (args_tuple_getitem _ _)))
  show wpAny _ _ (Builtin.Tuple.tupleItemsOf (.ref t) >>= _) _ _ s
  refine wpAny_bind (tupleItemsOf_ ht ?_)
  refine wpAny_bind (wpAny_typeOf hTs ?_)
  rw [if_pos (by decide)]
  refine wpAny_bind (sliceApplied_rv hs pl pu ps ?_)
  have hno : ¬ ((((items.size : Int) - 1) == 0 && (-1 : Int) == 1 && items.size == items.size) = true) := by
    intro q
    rw [Bool.and_eq_true, Bool.and_eq_true] at q
    have := eq_of_beq q.1.2
    omega
  show wpAny _ _ (if (((items.size : Int) - 1) == 0 && (-1 : Int) == 1 && items.size == items.size) = true then _ else _) _ _ s
  rw [if_neg hno, pick_rv]
  first
    | exact wpAny_bind (m := Builtin.Tuple.tupleExact _) (wpAny_newObj_type (wpAny_pure ⟨_, rfl, wpAny_pure h⟩) htake)
    | exact wpAny_bind (m := Builtin.Tuple.tupleExact _) (wpAny_newObj_type (wpAny_bind (wpAny_pure (wpAny_pure ⟨_, rfl, wpAny_pure h⟩))) htake)
end
end HT
namespace L2
open PySem PySem.Spec PyProof.Rows
section
variable {X : Cx}
/-- x[::-1], x a list or a tuple -/
def tRevA (K : PySem.W.Frag) (te : TE) : TE := fun σ H Q => te σ H fun x H1 => ∃ a xs, x = .ref a ∧ ((SqL K H1 a xs ∧ ∀ p, H1 p = none → Q (.ref p) (upd H1 p (.lst xs.reverse))) ∨ (SqT K H1 a xs ∧ ∀ p, H1 p = none → Q (.ref p) (upd H1 p (.tup xs.reverse))))
theorem pe_revA {e : Expr} {te : TE} {k : Nat} {p1 p2 p3 pos : Pos} (he : PE X e te) : PE X (.Subscript e (.Slice none none (some (.UnaryOp .USub (.Constant (.int 1) k p1) p2)) p3) pos) (tRevA X.K te) := by
  refine ⟨fun pins s σ H Q I h => ?_⟩
  refine Subscript_ (thn (he.run pins s σ H _ I h) fun v s1 ⟨x, H1, I1, r1, q1⟩ => ?_)
  obtain ⟨a, xs, ex, q⟩ := q1
  subst ex
  cases r1
  have hst : PO X (some (.UnaryOp .USub (.Constant (.int 1) k p1) p2)) (tPart (tUn (rU fun i => .int (-i)) (tC (.int 1)))) := po_some (pe_un un_neg pe_int)
  refine wpAny_Slice (thn (po_none.run pins s1 σ H1 (fun o H2 => o = none ∧ H2 = H1) I1 ⟨rfl, rfl⟩) fun vl s2 ⟨l, H2, I2, pl, el, e2⟩ => ?_)
  subst el e2
  refine thn (po_none.run pins s2 σ H2 (fun o H3 => o = none ∧ H3 = H2) I2 ⟨rfl, rfl⟩) fun vu s3 ⟨u, H3, I3, pu, eu, e3⟩ => ?_
  subst eu e3
  refine thn (hst.run pins s3 σ H3 (fun o H4 => o = some (-1) ∧ H4 = H3) I3 ⟨1, rfl, -1, rfl, rfl, rfl⟩) fun vs s4 ⟨o, H4, I4, ps, eo, e4⟩ => ?_
  subst eo e4
  have I5 : Inv X pins σ H4 { s4 with heap := s4.heap.push { cls := .type "slice", data := .fields #[vl, vu, vs] } } := I4.kept (t' := s4.toks) fun b ob q => Heap.get?_push_of_some _ q
  show wpAny (model X.prog X.w) X.A (subscriptTail e (.Slice none none (some (.UnaryOp .USub (.Constant (.int 1) k p1) p2)) p3) (.ref a) (.ref s4.heap.objs.size)) (EP X pins σ Q) X.xe { s4 with heap := s4.heap.push { cls := .type "slice", data := .fields #[vl, vu, vs] } }
  rcases q with ⟨hx, q⟩ | ⟨hx, q⟩
  · obtain ⟨its, r, ht, hz⟩ := I5.list hx
    have hlen := r.length
    refine tail_any (ops := [.ref a, .ref s4.heap.objs.size]) ht.isList.typeIs (PySem.slot_list_getitem.lookup) ?_ (by with_unfolding_all rfl)
    refine wpAny_getItem_list_slice ht.isList (Heap.IsSliceOf.new _ vl vu vs) pl pu ps (by decide) ?_ (by rw [List.size_toArray]; omega)
    rw [PySem.W.krv_pick]
    refine ⟨.ref _, _, I5.laid (t' := s4.toks) (o := .lst xs.reverse) (fun b ob q => Heap.get?_push_of_some _ q) (Nat.le_refl _) ?_, rfl, q _ (I5.hok.fresh (Nat.le_refl _))⟩
    exact ⟨by rw [List.length_reverse]; exact hz, _, 0, r.reverse, Heap.get?_push_size _ rfl⟩
  · obtain ⟨its, r, ht, hz⟩ := I5.tuple hx
    have hlen := r.length
    refine tail_any (ops := [.ref a, .ref s4.heap.objs.size]) ht.typeIs (PyProof.Rows.slot_tuple_getitem.lookup) ?_ (by with_unfolding_all rfl)
    refine HT.getItem_tuple_rv ht (Heap.IsSliceOf.new _ vl vu vs) pl pu ps ?_ (by rw [List.size_toArray]; omega)
    refine ⟨.ref _, _, I5.laid (t' := s4.toks) (o := .tup xs.reverse) (fun b ob q => Heap.get?_push_of_some _ q) (Nat.le_refl _) ?_, rfl, q _ (I5.hok.fresh (Nat.le_refl _))⟩
    exact ⟨by rw [List.length_reverse]; exact hz, _, r.reverse, IsTup.new _ _⟩
end
end L2
/-! ### sorted(d), d a dict by triples -/
namespace L2
open PySem PySem.Spec PyProof.Rows PyProof.Rows.G
def k3 (t : Int × Int × Int) : List Key := [.inl t.1, .inl t.2.1, .inl t.2.2]
def lay3 (t : Int × Int × Int) : List (Int ⊕ List Nat) := [.inl t.1, .inl t.2.1, .inl t.2.2]
def un3 : Option (List (Int ⊕ List Nat)) → Int × Int × Int
  | some [.inl x, .inl y, .inl z] => (x, y, z)
  | _ => (0, 0, 0)
theorem le3_lex {p q : Int × Int × Int} (h : lexLt itemOrd (lay3 q) (lay3 p) = false) : Pl.le3 p q = true := by
  obtain ⟨p1, p2, p3⟩ := p
  obtain ⟨q1, q2, q3⟩ := q
  unfold lay3 at h
  obtain ⟨h1, h2⟩ := lex_false.mp h
  have h1 : decide (q1 < p1) = false := h1
  have h1 := of_decide_eq_false h1
  unfold Pl.le3
  rw [decide_eq_true_eq]
  dsimp only
  rcases h2 with h2 | h2
  · have h2 : decide (p1 < q1) = true := h2
    exact .inl (of_decide_eq_true h2)
  · obtain ⟨h3, h4⟩ := lex_false.mp h2
    have h3 : decide (q2 < p2) = false := h3
    have h3 := of_decide_eq_false h3
    rcases h4 with h4 | h4
    · have h4 : decide (p2 < q2) = true := h4
      have := of_decide_eq_true h4
      omega
    · obtain ⟨h5, _⟩ := lex_false.mp h4
      have h5 : decide (q3 < p3) = false := h5
      have h5 := of_decide_eq_false h5
      omega
abbrev sh3 : Nat → Bool := fun _ => false
section
variable {X : Cx}
theorem tup3_at {pins : List (Addr × Obj)} {σ : St} {H : Hp} {s : Shared} (I : Inv X pins σ H s) {b : Addr} {t : Int × Int × Int} (hb : H b = some (.tup ((k3 t).map kV))) : tupKeyC s.heap sh3 (.ref b) = some (lay3 t) ∧ ∃ f, TupOf s.heap sh3 (.ref b) f := by
  obtain ⟨_, its, rr, o, ho, hc, n, hd⟩ := I.hok _ _ hb
  have r : Vals [V.int t.1, V.int t.2.1, V.int t.2.2] its := rr
  clear rr
  cases r with
  | cons r1 r =>
    cases r with
    | cons r2 r =>
      cases r with
      | cons r3 r =>
        cases r
        obtain ⟨t1, rfl⟩ := r1
        obtain ⟨t2, rfl⟩ := r2
        obtain ⟨t3, rfl⟩ := r3
        refine ⟨?_, _, ⟨b, o, _, n, rfl, ho, hc, hd, rfl, fun _ => ⟨_, _, rfl⟩, fun h => by cases h⟩⟩
        unfold tupKeyC isTupObj
        simp only [ho, hc]
        rw [if_pos (by decide)]
        unfold tupKey
        simp only [ho, hd]
        rfl
theorem tups3_at {pins : List (Addr × Obj)} {σ : St} {H : Hp} {s : Shared} (I : Inv X pins σ H s) {ts : List (Int × Int × Int)} {bs : List Addr} (h : Paired (fun t b => H b = some (.tup ((k3 t).map kV))) ts bs) : ∃ fs, TupsOf s.heap sh3 (bs.map Value.ref) fs := by
  induction h with
  | nil => exact ⟨[], .nil⟩
  | cons h1 h2 ih =>
    obtain ⟨fs, e⟩ := ih
    obtain ⟨_, f, hf⟩ := tup3_at I h1
    exact ⟨f :: fs, .cons hf e⟩
theorem paired_mem {α β : Type} {r : α → β → Prop} {as : List α} {bs : List β} (h : Paired r as bs) : ∀ {b : β}, b ∈ bs → ∃ a, a ∈ as ∧ r a b := by
  induction h with
  | nil => intro b hb; cases hb
  | cons h1 h2 ih =>
    intro b hb
    rcases List.mem_cons.mp hb with rfl | hb
    · exact ⟨_, List.mem_cons_self, h1⟩
    · obtain ⟨a, ha, hr⟩ := ih hb
      exact ⟨a, List.mem_cons_of_mem _ ha, hr⟩
theorem paired_map {α β : Type} {r : α → β → Prop} {g : β → α} {as : List α} {bs : List β} (h : Paired r as bs) (hg : ∀ a b, r a b → a = g b) : as = bs.map g := by
  induction h with
  | nil => rfl
  | cons h1 h2 ih => rw [List.map_cons, ← ih, ← hg _ _ h1]
theorem paired_of {α β : Type} {r : α → β → Prop} {g : β → α} : ∀ {bs : List β}, (∀ b ∈ bs, r (g b) b) → Paired r (bs.map g) bs
  | [], _ => .nil
  | b :: bs, h => .cons (h b List.mem_cons_self) (paired_of fun x hx => h x (List.mem_cons_of_mem _ hx))
theorem perm_map_ref {as : List Value} {bs : List Addr} (h : as.Perm (bs.map Value.ref)) : ∃ cs : List Addr, as = cs.map Value.ref ∧ cs.Perm bs := by
  have inv : ∀ l : List Value, (∀ v ∈ l, ∃ b, v = Value.ref b) → ∃ cs : List Addr, l = cs.map Value.ref := fun l => by
    induction l with
    | nil => exact fun _ => ⟨[], rfl⟩
    | cons v l ih =>
      intro h
      obtain ⟨b, rfl⟩ := h v List.mem_cons_self
      obtain ⟨cs, e⟩ := ih fun x hx => h x (List.mem_cons_of_mem _ hx)
      exact ⟨b :: cs, by rw [e]; rfl⟩
  obtain ⟨cs, e⟩ := inv as fun v hv => by
    obtain ⟨b, _, rfl⟩ := List.mem_map.mp (h.mem_iff.mp hv)
    exact ⟨b, rfl⟩
  refine ⟨cs, e, ?_⟩
  subst e
  have := h.map fun v : Value => match v with
    | .ref b => b
    | _ => 0
  rw [List.map_map, List.map_map] at this
  have e1 : ∀ l : List Addr, l.map ((fun v : Value => match v with
    | .ref b => b
    | _ => 0) ∘ Value.ref) = l := fun l => by
    induction l with
    | nil => rfl
    | cons a l ih => rw [List.map_cons, ih]; rfl
  rwa [e1, e1] at this
theorem call_sortedDT (hcalm : X.calm = true) : CallR X (.builtin "sorted") (fun xs H Q => ∃ (a : Addr) (kvs : List (List Key × V)) (ts : List (Int × Int × Int)), xs = [.ref a] ∧ Rd H a (.dT kvs) ∧ kvs.map (·.1) = ts.map k3 ∧
    ∀ (us : List (Int × Int × Int)) (bs : List Addr) (p : Addr), us.Perm ts → us.Pairwise (fun p q => Pl.le3 p q = true) → Paired (fun t b => H b = some (.tup ((k3 t).map kV))) us bs → H p = none → Q (.ref p) (upd H p (.lst (bs.map V.ref)))) := by
  intro pins s σ H xs us Q I r q
  obtain ⟨d, kvs, ts, ex, hd, hks, q⟩ := q
  subst ex
  obtain ⟨u, eu, rx⟩ := vals1 r
  subst eu
  cases rx
  obtain ⟨z, hs, ks, pr, o, es, ep, ho, hx, hdt, he, hn⟩ := (show ObjOk X.prog X.w H s.heap d (.dT kvs) from hd.ok I.hok)
  have l1 : es.size = ks.length := size_of_entries he
  have l2 : kvs.length = ks.length := Paired.length pr
  have hik := isKeys_of pr
  have l3 : ts.length = ks.length := by
    have := congrArg List.length hks
    rw [List.length_map, List.length_map] at this
    omega
  refine Calls.call_function_entry PyProof.Rows.kind_sorted PyProof.Rows.plain_sorted PyProof.Rows.entry_sorted (PyProof.Rows.args_sorted1 _) ?_
  unfold Builtin.«sorted»
  refine wpAny_bind (m := checkCount "sorted" 1 1 _) (wpAny_pure ?_)
  refine wpAny_bind (PySem.W.kdu_collect (A := X.A.in1) (kdl_raw hs hx hdt) (I.ok.hd hcalm) ho (by omega) fun h' tk acc hk it => ?_)
  have ea : acc.toList = ks.map fun x => Value.ref x.2.1 := by
    have hl : acc.toList.length = ks.length := by rw [Array.length_toList, it.1]; exact l1
    apply List.ext_getElem?
    intro j
    rw [List.getElem?_map]
    cases hj : acc.toList[j]? with
    | none =>
      have h1 := List.getElem?_eq_none_iff.mp hj
      rw [List.getElem?_eq_none (by omega)]
      all_goals rfl
    | some v =>
      obtain ⟨en, hen, hv⟩ := it.2 j v (by rw [← Array.getElem?_toList]; exact hj)
      have qe := entry_at he j
      rw [hen] at qe
      cases hb : ks[j]? with
      | none =>
        rw [hb] at qe
        exact nomatch (show some en = none from qe)
      | some b =>
        rw [hb] at qe
        have e2 : en = entryOfKey (tupleKind (mixKind X.prog X.w)) b := Option.some.inj qe
        rw [hv, e2]
        all_goals rfl
  have eb : acc.toList = (ks.map fun x => x.2.1).map Value.ref := by rw [ea, List.map_map]; all_goals rfl
  have hln : (ks.map fun x => x.2.1).length = ks.length := List.length_map _
  -- the keys, and their triples
  have hp : Paired (fun t b => H b = some (.tup ((k3 t).map kV))) ts (ks.map fun x => x.2.1) := by
    have : ∀ (kvs : List (List Key × V)) (bs : List Addr) (ts : List (Int × Int × Int)), IsKeys H kvs bs → kvs.map (·.1) = ts.map k3 → Paired (fun t b => H b = some (.tup ((k3 t).map kV))) ts bs := by
      intro kvs bs ts h
      induction h generalizing ts with
      | nil =>
        intro e
        cases ts with
        | nil => exact .nil
        | cons => cases e
      | @cons p b kvs bs h1 h2 ih =>
        intro e
        cases ts with
        | nil => cases e
        | cons t ts =>
          rw [List.map_cons, List.map_cons] at e
          injection e with e1 e2
          refine .cons ?_ (ih ts e2)
          rw [← e1]
          exact h1
    exact this _ _ _ hik hks
  generalize (ks.map fun x => x.2.1) = bs0 at *
  have I1 : Inv X pins σ H { s with heap := h', toks := tk } := I.kept hk
  have hz : acc.toList.length ≤ sizeLine := by rw [eb, List.length_map]; omega
  refine wpAny_bind (wpAny_newList ?_ hz)
  have I2 : Inv X pins σ H { s with heap := h'.push (seqObj "list" acc.toList.toArray 0), toks := tk } := I1.kept (t' := tk) fun b u e => Heap.get?_push_of_some _ e
  have hoL : (h'.push (seqObj "list" acc.toList.toArray 0)).get? h'.objs.size = some (seqObj "list" acc.toList.toArray 0) := Heap.get?_push_size _ rfl
  show wpAny _ _ _ _ _ { s with heap := h'.push (seqObj "list" acc.toList.toArray 0), toks := tk }
  have tof : ∃ fs, TupsOf (h'.push (seqObj "list" acc.toList.toArray 0)) sh3 acc.toList fs := by
    have q3 := tups3_at I2 hp
    rw [← eb] at q3
    exact q3
  have hkey : ∀ v, v ∈ acc.toList → ∃ l, tupKeyC (h'.push (seqObj "list" acc.toList.toArray 0)) sh3 v = some l := fun v hv => by
    rw [eb] at hv
    obtain ⟨b, hb, rfl⟩ := List.mem_map.mp hv
    obtain ⟨t, _, ht⟩ := paired_mem hp hb
    exact ⟨_, (tup3_at I2 ht).1⟩
  obtain ⟨fs, tof⟩ := tof
  refine wpAny_bind (wpAny_holding (wpAny_call_entry PyProof.Rows.slot_list_sort ⟨_, hoL, rfl⟩ PyProof.Rows.entry_list_sort
    (list_sort_tups (s := { s with heap := h'.push (seqObj "list" acc.toList.toArray 0), toks := tk }) (shape := sh3) (fs := fs) hoL tof hkey hz fun st' g1 g2 g3 => ⟨_, rfl, ?_⟩) (PyProof.Rows.args_list_sort _)))
  obtain ⟨e', he'⟩ := PyProof.Rows.sortedHeap_at (vs := acc.toList) (out := (arrOf st').map (·.2)) hoL
  -- what stands in the list then
  have pz : ((arrOf st').map (·.2)).toList.Perm (bs0.map Value.ref) := by
    rw [← eb, Array.toList_map]
    have := (Array.perm_iff_toList_perm.mp g1).map fun p : Keyed => p.2
    rw [pairsOf_toList] at this
    have e : (acc.toList.zip acc.toList).map (fun p : Keyed => p.2) = acc.toList := List.map_snd_zip (Nat.le_refl _)
    rw [e] at this
    exact this
  obtain ⟨cs, ecs, pcs⟩ := perm_map_ref pz
  have psnd : ∀ p ∈ (arrOf st').toList, p.1 = p.2 := fun p hp' => by
    have hm := (Array.perm_iff_toList_perm.mp g1).mem_iff.mp hp'
    rw [pairsOf_toList] at hm
    exact (mem_zip_self hm).1
  let g : Addr → Int × Int × Int := fun b => un3 (tupKeyC (h'.push (seqObj "list" acc.toList.toArray 0)) sh3 (.ref b))
  have gb : ∀ b ∈ bs0, H b = some (.tup ((k3 (g b)).map kV)) := fun b hb => by
    obtain ⟨t, _, ht⟩ := paired_mem hp hb
    have : g b = t := by
      show un3 (tupKeyC _ sh3 (.ref b)) = t
      rw [(tup3_at I2 ht).1]
      rfl
    rw [this]
    exact ht
  have gts : ts = bs0.map g := by
    refine paired_map hp fun t b ht => ?_
    show t = un3 (tupKeyC _ sh3 (.ref b))
    rw [(tup3_at I2 ht).1]
    rfl
  have srt : (cs.map g).Pairwise (fun p q => Pl.le3 p q = true) := by
    rw [List.pairwise_map, List.pairwise_iff_getElem]
    intro i j hi hj hij
    have hlen : (arrOf st').size = cs.length := by
      have := congrArg List.length ecs
      rw [Array.toList_map, List.length_map, List.length_map, Array.length_toList] at this
      exact this
    have hsz : (pairsOf acc.toList).size = cs.length := by
      rw [pairsOf_size, ← hlen]
      have := (Array.perm_iff_toList_perm.mp g1).length_eq
      rw [pairsOf_toList, List.length_zip, Nat.min_self, Array.length_toList] at this
      exact this.symm
    have h2 := g2 i j (Nat.le_of_lt hij) (by rw [hsz]; exact hj)
    have kk : ∀ (m : Nat) (hm : m < cs.length), KK (tupKindC (h'.push (seqObj "list" acc.toList.toArray 0)) sh3) (arrOf st') m = lay3 (g cs[m]) := fun m hm => by
      have hm' : m < (arrOf st').size := by omega
      have e1 : (arrOf st')[m]? = some (arrOf st')[m] := Array.getElem?_eq_getElem hm'
      have e2 : ((arrOf st')[m]).1 = ((arrOf st')[m]).2 := psnd _ (by rw [← Array.getElem_toList]; exact List.getElem_mem _)
      have e3 : ((arrOf st')[m]).2 = Value.ref cs[m] := by
        have : ((arrOf st').map (·.2)).toList[m]? = (cs.map Value.ref)[m]? := by rw [ecs]
        rw [Array.toList_map, List.getElem?_map, List.getElem?_map, List.getElem?_eq_getElem hm, Array.getElem?_toList, e1] at this
        exact Option.some.inj this
      unfold KK
      rw [e1]
      show ((tupKeyC _ sh3 ((arrOf st')[m]).1).getD []) = _
      rw [e2, e3]
      have hb : cs[m] ∈ bs0 := pcs.mem_iff.mp (List.getElem_mem hm)
      rw [(tup3_at I2 (gb _ hb)).1]
      rfl
    rw [kk i hi, kk j hj] at h2
    exact le3_lex h2
  have hpair : Paired (fun t b => H b = some (.tup ((k3 t).map kV))) (cs.map g) cs := paired_of fun b hb => gb b (pcs.mem_iff.mp hb)
  have hlen : (cs.map V.ref).length ≤ sizeLine := by
    rw [List.length_map, pcs.length_eq]
    omega
  refine wpAny_pure ⟨_, rfl, .ref h'.objs.size, upd H h'.objs.size (.lst (cs.map V.ref)), I1.laid (t' := tk) (fun b u e => ?_) (Nat.le_refl _)
    (show ObjOk X.prog X.w _ _ _ (.lst (cs.map V.ref)) from ⟨hlen, ((arrOf st').map (·.2)).toList, e', by rw [ecs]; exact vals_refs cs, by rw [Array.toArray_toList]; exact he'⟩), rfl, q _ cs _ (by rw [gts]; exact pcs.map g) srt hpair (I1.hok.fresh (Nat.le_refl _))⟩
  have hb : b < h'.objs.size := Heap.lt_size e
  rw [PyProof.Rows.sortedHeap_old (Nat.ne_of_lt hb) (by rw [size_push']; exact Nat.lt_succ_of_lt hb)]
  exact Heap.get?_push_of_some _ e
end
end L2
/-! ### list.count among ints and None -/
namespace L2
open PySem PySem.Spec PyProof.Rows
def oV : Option Int → V
  | some i => .int i
  | none => .non
section
variable {X : Cx}
theorem eqk_opt {k : Int} {t : Tok} {A : Around} {s : Shared} : ∀ {os : List (Option Int)} {us : List Value}, Vals (os.map oV) us → ∀ y ∈ us, SeqAt.EqAt A s y (.int k t) (eqk k y)
  | [], _, .nil => fun y hy => by cases hy
  | some i :: os, _, .cons r h => fun y hy => by
    rcases List.mem_cons.mp hy with e | e
    · obtain ⟨t', rfl⟩ := r
      rw [e]
      exact (MeetsSeq.EqGives.int i k t' t).at _ _
    · exact eqk_opt h y e
  | none :: os, _, .cons r h => fun y hy => by
    rcases List.mem_cons.mp hy with e | e
    · cases r
      rw [e]
      exact SeqAt.EqAt.none_int k t
    · exact eqk_opt h y e
theorem eqk_counto {k : Int} : ∀ {os : List (Option Int)} {us : List Value}, Vals (os.map oV) us → us.countP (eqk k) = os.count (some k)
  | [], _, .nil => rfl
  | some i :: os, _, .cons r h => by
    obtain ⟨t', rfl⟩ := r
    have ih := eqk_counto (k := k) h
    rw [List.countP_cons, List.count_cons, ih]
    have : eqk k (.int i t') = (some i == some k) := by
      show (i == k) = _
      rfl
    rw [this]
  | none :: os, _, .cons r h => by
    cases r
    have ih := eqk_counto (k := k) h
    rw [List.countP_cons, List.count_cons, ih]
    rfl
def rCntO (K : PySem.W.Frag) : V → List V → Hp → VK → Prop := fun x xs H Q => ∃ (p : Addr) (os : List (Option Int)) (k : Int), x = .ref p ∧ xs = [.int k] ∧ SqL K H p (os.map oV) ∧ Q (.int (os.count (some k) : Nat)) H
theorem mt_lcountO : MtR X "list.count" (rCntO X.K) := by
  intro pins s σ H x xs v us Q I rx rxs h
  obtain ⟨p, os, k, rfl, rfl, hs, q⟩ := h
  cases rx
  obtain ⟨u, rfl, ru⟩ := rxs.one
  obtain ⟨t, rfl⟩ := ru
  obtain ⟨its, rv, ⟨⟨cls, dd, data, sl⟩, n, ho, hc, hdn, hd⟩, hlen⟩ := I.list hs
  simp only at hc hd
  subst hc hd
  refine call_meets PySem.F.slot_list_count ⟨_, ho, rfl⟩ PySem.F.entry_list_count (PySem.F.args_list_count_2 _ _)
    (SeqAt.list_countAt p its.toArray n dd sl (.int k t) (eqk k)) ⟨ho, fun y hy => eqk_opt rv y (by simpa using hy), ?_⟩
  have ec : its.toArray.toList.countP (eqk k) = os.count (some k) := eqk_counto rv
  refine ⟨.int (os.count (some k) : Nat), H, I.tok _, ⟨s.toks, ?_⟩, q⟩
  show Value.int ((its.toArray.toList.countP (eqk k) : Nat) : Int) s.toks = Value.int ((os.count (some k) : Nat) : Int) s.toks
  rw [ec]
/-- the keys that were gathered of a dict by whole numbers -/
theorem gathered {ks : List Int} {vs : List (Key × Value)} {acc : List Value} (hk : vs.map (·.1) = ks.map Sum.inl) (hl : acc.length = ks.length)
    (h : ∀ (j : Nat) (v : Value), acc[j]? = some v → ∃ (k : Key) (x : Value), vs[j]? = some (k, x) ∧ keyIs k v = true) : IntsAre acc ks := by
  refine ints_each hl fun j v e => ?_
  obtain ⟨k, x, e1, e2⟩ := h j v e
  have e3 : (ks.map Sum.inl)[j]? = some k := by
    rw [← hk, List.getElem?_map, e1]
    rfl
  rw [List.getElem?_map] at e3
  cases e4 : ks[j]? with
  | none =>
    rw [e4] at e3
    cases e3
  | some y =>
    rw [e4] at e3
    obtain rfl : Sum.inl y = k := Option.some.inj e3
    rcases keyIs_shape e2 with ⟨i, t, q, ev⟩ | ⟨z, t, q, _⟩
    · cases q
      exact ⟨y, t, rfl, ev⟩
    · cases q
/-- sorted of a dict by whole numbers, any number of them -/
theorem call_sortedW (hcalm : X.calm = true) : CallR X (.builtin "sorted") (fun xs H Q => ∃ (a : Addr) (kvs : List (Key × V)) (ks : List Int), xs = [.ref a] ∧ Rd H a (.dK kvs) ∧ kvs.map (·.1) = ks.map Sum.inl ∧ ks.length ≤ sizeLine ∧
    ∀ (ys : List Int) (p : Addr), ys.Perm ks → ys.Pairwise (· ≤ ·) → H p = none → Q (.ref p) (upd H p (.lst (ys.map V.int)))) := by
  intro pins s σ H xs us Q I r ⟨a, kvs, ks, ex, hd, hks, hz, q⟩
  subst ex
  obtain ⟨u, eu, rx⟩ := vals1 r
  subst eu
  cases rx
  obtain ⟨_, lo, vs, rel, dd⟩ := dk_rd I.hok hd
  obtain ⟨ep, hat⟩ := dd.dictAt
  have hk : vs.map (·.1) = ks.map Sum.inl := rel.keys.symm.trans hks
  have hl : vs.length = ks.length := by simpa using congrArg List.length hk
  refine Calls.call_function_entry PyProof.Rows.kind_sorted PyProof.Rows.plain_sorted PyProof.Rows.entry_sorted (PyProof.Rows.args_sorted1 _) ?_
  unfold Builtin.«sorted»
  refine wpAny_bind (m := checkCount "sorted" 1 1 _) (wpAny_pure ?_)
  refine wpAny_bind (PySem.W.kdu_collect (A := X.A.in1) (PySem.W.kdl_dict (knd := mixKind X.prog X.w) (kvs := vs) (ep := ep) lo) (I.ok.hd hcalm) hat (by omega) fun g tk acc kp ha => ?_)
  have al : acc.toList.length = ks.length := by rw [Array.length_toList, ha.1, hl]
  have hS : IntsAre acc.toList ks := gathered hk al fun j v e => ha.2 j v (by rw [← Array.getElem?_toList]; exact e)
  have az : acc.toList.length ≤ sizeLine := by omega
  refine wpAny_bind (wpAny_newList ?_ az)
  have at_ : (g.push (seqObj "list" acc.toList.toArray 0)).get? g.objs.size = some (seqObj "list" acc.toList.toArray 0) := Heap.get?_push_size _ rfl
  show wpAny _ _ _ _ _ { s with heap := g.push (seqObj "list" acc.toList.toArray 0), toks := tk }
  refine wpAny_bind (wpAny_holding (wpAny_call_entry PyProof.Rows.slot_list_sort ⟨_, at_, rfl⟩ PyProof.Rows.entry_list_sort
    (SrtO.list_sort_ord (s := { s with heap := g.push (seqObj "list" acc.toList.toArray 0), toks := tk }) SrtO.swo_int at_ az (fun h2 => SrtO.ints_sortable hS h2) fun out h1 h2 => ⟨_, rfl, ?_⟩) (PyProof.Rows.args_list_sort _)))
  obtain ⟨k1, k2, k3⟩ := SrtO.ints_out hS h1 h2
  obtain ⟨e', he'⟩ := PyProof.Rows.sortedHeap_at (vs := acc.toList) (out := out.toArray) at_
  have I1 : Inv X pins σ H { s with heap := g, toks := tk } := I.kept kp
  refine wpAny_pure ⟨_, rfl, .ref g.objs.size, upd H g.objs.size (.lst ((out.map SrtO.iv).map V.int)), I1.laid (t' := tk) (fun b u e => ?_) (Nat.le_refl _)
    ⟨by rw [List.length_map, k2.length_eq]; exact hz, out, e', vals_of_ints k1, he'⟩, rfl, q _ _ k2 k3 (I1.hok.fresh (Nat.le_refl _))⟩
  have hb : b < g.objs.size := Heap.lt_size e
  rw [PyProof.Rows.sortedHeap_old (Nat.ne_of_lt hb) (by rw [size_push']; exact Nat.lt_succ_of_lt hb)]
  exact Heap.get?_push_of_some _ e
end
end L2
/-! dict(d), d a dict by tuples. -/
namespace PySem
section
variable {prog : Program} {w : World} {K : Type} [DecidableEq K] {knd : HeapKind prog w K} {A : Around} {E : Value → Shared → Prop} {s : Shared}
theorem kt_call_dictH {o : Addr} {more : List (K × Addr × Value)} {Q : Value → Shared → Prop} (st : knd.Stays) (hu : knd.room A.in1.in1) (hoS : (o == sysModules) = false) (ho : s.heap.DictOfH knd o more) (hsz : more.length ≤ sizeLine) (hap : (more.map fun x => knd.hash x.1).Nodup)
    (h : ∀ h', h'.DictOfH knd s.heap.objs.size more → Heap.SameBut s.heap.objs.size (s.heap.push { cls := .type "dict", data := .dict #[] }) h' → Q (.ref s.heap.objs.size) { s with heap := h' }) :
    wpAny (model prog w) A (call (.type "dict") [.ref o]) Q E s := by
  refine callType_codes (Q₁ := fun obj s₁ => obj = .ref s.heap.objs.size ∧ s₁ = { s with heap := s.heap.push { cls := .type "dict", data := .dict #[] } }) F.kt_called_dict (F.kt_typeCall_dict_1 _) F.entry_dict_init (kt_code_dict_new _ ⟨rfl, rfl⟩) ?_
  rintro obj s₁ ⟨rfl, rfl⟩
  have hnew : (s.heap.push { cls := .type "dict", data := .dict #[] }).DictOfH knd s.heap.objs.size [] := Heap.DictOfH.new s.heap
  have his : ∀ y ∈ more, knd.is (s.heap.push { cls := .type "dict", data := .dict #[] }) y.1 y.2.1 := fun y hy => by
    obtain ⟨_, _, _, _, _, _, _, z, _⟩ := id ho
    exact st.stays (fun b ob vs n hb _ => Heap.get?_push_of_some _ hb) (z y hy)
  have ho' : (s.heap.push { cls := .type "dict", data := .dict #[] }).DictOfH knd o more := ho.at' (fun ob hb => Heap.get?_push_of_some _ hb) his
  have hn : (more.map (·.1)).Nodup := ho.nodup
  have hdo : s.heap.objs.size ≠ o := fun e => absurd ho.lt_size (by rw [e]; exact Nat.lt_irrefl _)
  refine ⟨hnew.typeIs, F.args_dict_init_2 _ _, ?_⟩
  unfold Builtin.«dict.__init__»
  refine wpAny_bind ?_
  unfold Builtin.Dict.selfAndRest
  refine wpAny_bind (wpAny_notOrdered_dict hnew.typeIs ?_)
  show wpAny _ _ (pure (s.heap.objs.size, [Value.ref o])) _ _ _
  refine wpAny_pure ?_
  show wpAny _ _ (Builtin.Dict.updateFrom "dict.__init__" s.heap.objs.size (.ref o) [] .none) _ _ _
  unfold Builtin.Dict.updateFrom
  refine wpAny_bind (wpAny_typeOf ho'.typeIs ?_)
  rw [if_neg (by decide)]
  refine wpAny_bind ?_
  unfold Builtin.Dict.merge
  refine wpAny_bind ?_
  unfold Builtin.Dict.readDirectly
  refine wpAny_bind (wpAny_isInstance ho'.typeIs isSubtype_dict_dict ?_)
  simp only [Bool.not_true, Bool.false_eq_true, if_false]
  refine wpAny_bind (wpAny_specialOf ho'.typeIs F.slot_dict_iter.lookup (wpAny_pure ?_))
  simp only [beq_self_eq_true, if_true]
  refine wpAny_bind (wpAny_pure ?_)
  refine wpAny_mergeDict_heap (hsz := by simpa using hsz) hu hdo hoS hnew ho' (.inr ⟨fun x hx => st.tuple (his x hx), hap⟩) fun h' hd' _ hs' => ?_
  show wpAny _ _ (Builtin.Dict.addKeywords s.heap.objs.size [] >>= _) _ _ _
  rw [storedAllH_nil_of_nodup more hn] at hd'
  exact wpAny_bind (wpAny_pure (wpAny_pure ⟨rfl, h h' hd' hs'⟩))
end
end PySem
namespace Pl
open PySem PySem.Spec
open PyProof.Rows hiding St
open L2
theorem hashK_eq {w : World} {P : Program} {ks : List Key} (h : intKs ks = true) : (tupleKind (mixKind P w)).hash ks = hashK ks := by
  show tupleKeyHash (mixKind P w) ks = hashK ks
  unfold tupleKeyHash hashK
  congr 2
  refine List.map_congr_left fun k hk => ?_
  have := List.all_eq_true.mp h k hk
  cases k with
  | inl i => rfl
  | inr x => exact absurd this Bool.false_ne_true
section
variable {X : Cx}
def rDictT : List V → Hp → VK → Prop := fun xs H Q => ∃ (a : Addr) (kvs : List (List Key × V)), xs = [.ref a] ∧ Rd H a (.dT kvs) ∧ (∀ kv ∈ kvs, intKs kv.1 = true) ∧ (kvs.map fun kv => hashK kv.1).Nodup ∧ ∀ p, H p = none → Q (.ref p) (upd H p (.dT kvs))
theorem call_dictT (hu : X.A.in1.in1.units < cLine) : CallR X (.type "dict") rDictT := by
  intro pins s σ H xs us Q I r q
  obtain ⟨a, kvs, ex, hd, hi, hn, q⟩ := q
  subst ex
  obtain ⟨u, eu, rx⟩ := vals1 r
  subst eu
  cases rx
  obtain ⟨z, lo, ys, rel, dd⟩ := dt_rd I.hok hd
  have hl : kvs.length = ys.length := Paired.length rel
  have ek : (ys.map fun x => (tupleKind (mixKind X.prog X.w)).hash x.1) = kvs.map fun kv => hashK kv.1 := by
    have : ∀ {l : List (List Key × V)} {m : List (List Key × Addr × Value)}, L2.KT H l m → (∀ kv ∈ l, intKs kv.1 = true) → (m.map fun x => (tupleKind (mixKind X.prog X.w)).hash x.1) = l.map fun kv => hashK kv.1 := by
      intro l m q
      induction q with
      | nil => exact fun _ => rfl
      | @cons p q ps qs hq t ih =>
        intro hi
        rw [List.map_cons, List.map_cons, ih fun kv h => hi kv (List.mem_cons_of_mem _ h), ← hq.1, hashK_eq (hi p List.mem_cons_self)]
    exact this rel hi
  refine kt_call_dictH tupleKind_stays hu lo dd (by rw [← hl]; exact z) (by rw [ek]; exact hn) fun h' d' hs => ?_
  have hm : (s.heap.objs.size == sysModules) = false := beq_eq_false_iff_ne.mpr (Nat.ne_of_gt I.big)
  have hf := I.hok.fresh (Nat.le_refl s.heap.objs.size)
  have rel2 : ∀ {l : List (List Key × V)} {m : List (List Key × Addr × Value)}, L2.KT H l m → L2.KT (upd H s.heap.objs.size (.dT kvs)) l m := by
    intro l m q
    induction q with
    | nil => exact .nil
    | @cons p q ps qs hq t ih =>
      refine .cons ⟨hq.1, ?_, hq.2.2⟩ ih
      have : q.2.1 ≠ s.heap.objs.size := fun e => by
        have := hq.2.1
        rw [e, hf] at this
        cases this
      rw [upd_ne this]
      exact hq.2.1
  obtain ⟨o', es, ep, g1, g2, g3, g4, _, g6⟩ := d'
  exact ⟨.ref s.heap.objs.size, upd H s.heap.objs.size (.dT kvs), I.laid (t' := s.toks) (fun b u e => (hs.2 b (Nat.ne_of_lt (Heap.lt_size e))).trans (Heap.get?_push_of_some _ e)) (Nat.le_refl _)
    (show ObjOk X.prog X.w _ _ _ (.dT kvs) from ⟨z, hm, ys, rel2 rel, o', es, ep, g1, g2, g3, g4, g6⟩), rfl, q _ hf⟩
end
end Pl
/-! sorted(xs, key=f), f a def that answers the first of a pair. -/
namespace L2
open PySem PySem.Spec PyProof.Rows
/-- the call of f keeps the heap and gives the first item -/
def KeyF (P : Program) (w : World) (A : Around) (K : PySem.W.Frag) (f : Addr) : Prop := ∀ (s : Shared) (t : Addr) (items : Array Value) (k : Int) (u : Tok), K.In s.heap → s.heap.NoLimit → IsTup s.heap t items → items[0]? = some (.int k u) →
  wpAny (model P w) A (call (.ref f) [.ref t]) (PySem.W.KeyPure (.int k) s) (fun _ _ => False) s
theorem keyF_of {P : Program} {w : World} {A : Around} {K : PySem.W.Frag} {N : List Str} {f : Addr} {x nm qual : Str} {params : Arguments} {scope : Scope} {fd : FuncData} {k : Nat} {p1 p2 p3 p4 : Pos}
    (F : FunD K nm qual params [.Return (some (.Subscript (.Name x p1) (.Constant (.int 0) k p2) p3)) p4] scope [] [] f fd) (S : FnScope N [x] scope) (hb : Binds K fd [x] []) (hd : (x == ("__debug__" : Str)) = false) (hcd2 : (x == ("__classdict__" : Str)) = false) (room : A.depth < recursionLimit) : KeyF P w A K f := by
  intro s t items i u KX lim ht h0
  obtain ⟨oc, od, dV, kV, doc, pm, an, cdv, ct, osl, rfl, lk, hcd, _, _⟩ := F.ex
  have hkind : ∀ y ∈ ([x] : List Str).zip [Value.ref t], scope.names.lookup y.1 = some .local ∨ (scope.names.lookup y.1 = some .cell ∧ ((cellsFrom (s.heap.objs.size + 1) scope.names []).lookup y.1).isSome = true) := fun ⟨n, v⟩ hy => by
    rcases S.par n (List.of_mem_zip hy).1 with q | q
    · exact .inl q
    · exact .inr ⟨q, PySem.W.cellsFrom_some _ _ _ (.inl q)⟩
  refine wpAny_call (codeAny_call_function room (KX _ _ lk) rfl S.co S.gen rfl (PySem.W.codeRec_of KX hcd) ((hb s [.ref t] KX rfl) _ _ _ _ ?_))
  refine wpAny_newFunctionEnv_cells S.kind hkind fun env he s1 z => ?_
  subst he
  refine ⟨lim.keeps z.toInCall.keep, codeAny_func ?_⟩
  obtain ⟨h1, tk, rfl, hk⟩ := z.done
  have load : ∀ {E : Value → Shared → Prop} {A' : Around} {Q : Value → Shared → Prop}, Q (.ref t) { s with heap := h1, toks := tk } → wpAny (model P w) A' (eval (.Name x p1) (envOfC qual scope s.heap.objs.size f cdv)) Q E { s with heap := h1, toks := tk } := fun {E A' Q} q => by
    rcases S.par x List.mem_cons_self with e | e
    · refine wpAny_Name (wpAny_loadName_local S.kind e z.toInCall.ns (bindL_get (i := 0) (by simp) rfl rfl e) q) hd
    · obtain ⟨c, ec⟩ := cell_has (n := s.heap.objs.size + 1) e
      have hc := z.cell x c ec
      rw [bindC_get (i := 0) (v := .ref t) (by simp) rfl rfl (by show scope.names.lookup x ≠ _; rw [e]; decide)] at hc
      exact wpAny_Name (wpAny_loadName_cell S.kind e ec hc q) hd
  have ht' : IsTup h1 t items := ht.keeps hk
  refine wpAny_execs_cons (wpAny_Return_some (Subscript_ (load (wpAny_Constant_int ?_))))
  refine subscriptTail_builtinR (x := .int i u) (s := { s with heap := h1, toks := tk + 1 }) ht'.typeIs slot_tuple_getitem.lookup (getItem_tuple (j := 0) ht' (by decide) (by decide) ?_ h0 ⟨rfl, ?_⟩) (by with_unfolding_all rfl)
  · have hn : 0 < items.size := (Array.getElem?_eq_some_iff.mp h0).1
    exact seqIndex_of (k := 0) (by omega) (by omega)
  · exact ⟨h1, tk + 1, rfl, hk, Reads.int i u⟩
/-- sorted(xs, key=f) -/
def rKey (K : PySem.W.Frag) (f : Addr) : List V → List V → Hp → VK → Prop := fun xs zs H Q => ∃ (a : Addr) (bs : List (V × Int)), xs = [.ref a] ∧ zs = [.ref f] ∧ SqL K H a (bs.map (·.1)) ∧
  (∀ b ∈ bs, ∃ t ys, b.1 = .ref t ∧ SqT K H t (.int b.2 :: ys)) ∧ ∀ p, H p = none → Q (.ref p) (upd H p (.lst ((bs.mergeSort fun x y => decide (x.2 ≤ y.2)).map (·.1))))
section
variable {X : Cx}
theorem cr_key {f : Addr} (hf : KeyF X.prog X.w X.A.in1.in1 X.K f) (hu : X.A.units + 65 < cLine) : CallRK X (.builtin "sorted") [Str.ofString "key"] (rKey X.K f) := by
  intro pins s σ H vs zs us ws Q I r rz h
  obtain ⟨a, bs, rfl, rfl, hs, hb, q⟩ := h
  obtain rfl := Vals.ref1 r
  obtain ⟨w1, rfl, e1⟩ := vals1 rz
  obtain rfl : w1 = Value.ref f := e1
  obtain ⟨its, rv, hl, hz⟩ := I.list hs
  have hE : PySem.W.EachIs (fun (v : Value) (b : V × Int) => RelV b.1 v ∧ b ∈ bs) its bs := by
    have go : ∀ (ys : List (V × Int)) (us : List Value), Vals (ys.map (·.1)) us → (∀ y ∈ ys, y ∈ bs) → PySem.W.EachIs (fun (v : Value) (b : V × Int) => RelV b.1 v ∧ b ∈ bs) us ys := by
      intro ys
      induction ys with
      | nil => intro us r _; cases r; exact .nil
      | cons y ys ih =>
        intro us r m
        cases r with
        | cons h1 h2 => exact .cons ⟨h1, m y List.mem_cons_self⟩ (ih _ h2 fun z hz => m z (List.mem_cons_of_mem _ hz))
    exact go bs its rv fun _ h => h
  refine PySem.W.sorted_key_data (β := V × Int) (b := false) (kw := [(Str.ofString "key", .ref f)]) (R := fun v b => RelV b.1 v ∧ b ∈ bs) (fun b => .int b.2) hl.isList hE (PySem.W.AllAlike.of fun _ _ => rfl) (PySem.W.Sortable.others fun _ => ⟨by simp, by simp⟩) (by simpa using hz) (fun b _ => ?_) (ksk_s1 _ _) (fun _ => ksk_l1 _ _) (fun _ => ksk_t1 _ _) (fun v b hv _ g tk kp => ?_) fun out c h' tk kp fr hD hlen eo => ?_
  · show X.A.units + 2 + PyData.depth (.int b.2) < cLine
    simp only [PyData.depth]
    omega
  · obtain ⟨t, ys, e, ht⟩ := hb b hv.2
    have r1 := hv.1
    rw [e] at r1
    cases r1
    obtain ⟨its2, r2, pl, hz2⟩ := I.tuple ht
    cases r2 with
    | cons ra rb =>
      obtain ⟨u, rfl⟩ := ra
      exact hf { s with heap := g, toks := tk } t _ b.2 u (I.kIn.keeps kp) (I.nolimit.keeps kp) (pl.keeps kp) (by simp)
  · rw [PySem.W.dataLe_int (β := V × Int) fun b => b.2] at eo
    have back : ∀ {us : List Value} {ys : List (V × Int)}, PySem.W.EachIs (fun (v : Value) (b : V × Int) => RelV b.1 v ∧ b ∈ bs) us ys → Vals (ys.map (·.1)) us := by
      intro us ys e
      induction e with
      | nil => exact .nil
      | cons h _ ih => exact .cons h.1 ih
    have hlen2 : ((bs.mergeSort fun x y => decide (x.2 ≤ y.2)).map (·.1)).length ≤ sizeLine := by
      rw [List.length_map, List.length_mergeSort]
      simpa using hz
    exact ⟨.ref _, upd H (s.heap.objs.size + 1) (.lst ((bs.mergeSort fun x y => decide (x.2 ≤ y.2)).map (·.1))), I.laid (t' := tk) kp (Nat.le_succ _) ⟨hlen2, out, c, back eo, hD⟩, rfl, q _ (I.hok.fresh (Nat.le_succ _))⟩
/-- sorted(e, key=y) -/
def tSrtKey (K : PySem.W.Frag) (f : Addr) (te : TE) : TE := fun σ H Q => te σ H fun x H1 => rKey K f [x] [.ref f] H1 Q
theorem pe_srtKey {f : Addr} {e : Expr} {te : TE} {y : Str} {p p2 p3 pos : Pos} (hf : KeyF X.prog X.w X.A.in1.in1 X.K f) (hu : X.A.units + 65 < cLine) (he : PE X e te) (hg : Gl X "sorted") (hm : X.mg "sorted" = none) (gy : Gl X y) (my : X.mg y = some (.ref f)) (hy : (y == ("__debug__" : Str)) = false)
    (hst : starEach [e] X.env = (false, eval e X.env) :: starEach [] X.env) : PE X (.Call (.Name "sorted" p) [e] [⟨some "key", .Name y p2, p3⟩] pos) (tSrtKey X.K f te) := by
  have hpl : (backTo pos (starEach [e] X.env)).any (·.1) = false := by rw [hst]; rfl
  have h := pe_callBK (X := X) (x := "sorted") (p := p) (pos := pos) (e := e) (es := []) (kws := [⟨some "key", .Name y p2, p3⟩]) (t := tCons te tNil) (tk := tCons (tC (.ref f)) tNil) (cr_key hf hu) hg hm rfl (pa_cons he pa_nil hst) (pk_cons (pe_glob gy my rfl hy) pk_nil) (by decide) (by decide) (by rw [hst]; rfl) hpl rfl rfl rfl
  exact h
end
end L2
namespace Pl
open PySem PySem.Spec
open PyProof.Rows hiding St
open L2
theorem tup_one (l : Addr) (its : Array Value) (n : Nat) (dd : Option Addr) (sl : Array (Option Value)) (u : Tok) :
    Meets (Builtin.«tuple.__mul__» ⟨[.ref l, .int 1 u], []⟩) (fun _ R s => s.heap.get? l = some { cls := .type "tuple", dict := dd, data := .seq its n, slots := sl } ∧ R (.ok (.ret (Value.ref l))) s) :=
  .of_wp fun prog w A R s h => by
    rcases s with ⟨hp, g, d, tk, os⟩
    rcases h with ⟨hl, h⟩
    have f1 := AutoSeq1.idx_int
    have c1 : (its.isEmpty || (1 : Int) == 1) = true := by simp
    wp_walk using wpAny_loadPart' hl
    exact ⟨_, rfl, h⟩
theorem tup_nought (l : Addr) (its : Array Value) (n : Nat) (dd : Option Addr) (sl : Array (Option Value)) (x : Int) (u : Tok) (h0 : x ≤ 0) (h1 : -1000 ≤ x) (c1 : (its.isEmpty || x == 1) = false) :
    Meets (Builtin.«tuple.__mul__» ⟨[.ref l, .int x u], []⟩) (fun _ R s => s.heap.get? l = some { cls := .type "tuple", dict := dd, data := .seq its n, slots := sl } ∧
      R (.ok (.ret (Value.ref s.heap.objs.size))) { s with heap := s.heap.push { cls := Value.type "tuple", data := Data.seq #[] }, toks := s.toks }) :=
  .of_wp fun prog w A R s h => by
    rcases s with ⟨hp, g, d, tk, os⟩
    rcases h with ⟨hl, h⟩
    have f1 := AutoSeq1.idx_int
    have c0 : (decide (x < -(2 ^ 63)) || decide (x ≥ 2 ^ 63)) = false := by
      rw [decide_eq_false (by omega), decide_eq_false (by omega)] <;> rfl
    have c2 : (decide (x ≤ 0) || its.isEmpty) = true := by rw [decide_eq_true h0, Bool.true_or]
    wp_walk using wpAny_loadPart' hl
    repeat (first
      | (refine wpAny_ite_false (decide_eq_false (by rw [c0]; exact Bool.false_ne_true)) ?_; wp_walk using wpAny_loadPart' hl)
      | (refine wpAny_ite_false (decide_eq_false (by rw [c1]; exact Bool.false_ne_true)) ?_; wp_walk using wpAny_loadPart' hl)
      | (refine wpAny_ite_true (decide_eq_true c2) ?_; wp_walk using wpAny_loadPart' hl))
    exact ⟨_, rfl, h⟩
/-- a tuple some times -/
def rTms (K : PySem.W.Frag) : R2 := fun x y H Q => ∃ l k xs, x = .ref l ∧ y = .int k ∧ SqT K H l xs ∧ xs ≠ [] ∧ -1000 ≤ k ∧ k ≤ 1000 ∧ xs.length ≤ 1000 ∧ (k = 1 → Q (.ref l) H) ∧ (k ≠ 1 → ∀ p, H p = none → Q (.ref p) (upd H p (.tup (List.replicate k.toNat xs).flatten)))
theorem op_tms {X : Cx} : OpR X (binaryOp .Mult) (rTms X.K) := by
  intro pins s σ H x y v u Q I rx ry h
  obtain ⟨l, k, xs, hx, hy, hT, hne, b1, b2, hz, q1, q2⟩ := h
  subst hx hy
  by_cases hk : 2 ≤ k
  · exact op_repT pins s σ H _ _ v u Q I rx ry ⟨l, k, xs, rfl, rfl, hT, hne, hk, b2, hz, q2 (by omega)⟩
  cases rx
  obtain ⟨t, rfl⟩ := ry
  obtain ⟨its, r, ⟨⟨cls, dd, data, sl⟩, ho, hc, n, hd⟩, hs⟩ := I.tuple hT
  simp only at hc hd
  subst hc hd
  have hn : its.toArray.isEmpty = false := by
    cases its with
    | nil =>
      cases r
      exact absurd rfl hne
    | cons a b => rfl
  by_cases h1 : k = 1
  · subst h1
    exact wpAny_binaryOp_repeat_ref (T := "tuple") (U := "int") (by decide) ⟨_, ho, rfl⟩ (fun s' => typeIs_int s' 1 t) noFill_tuple_mul F.fills_int_mul F.slot_int_rmul repeat_tuple F.slot_int_index.lookup
      (call_meets F.slot_int_rmul (typeIs_int s 1 t) F.entry_int_rmul (F.args_int_rmul_2 _ _) (int_rmul_tuple 1 t l its.toArray n dd sl)
        ⟨ho, rfl, ⟨_, ho, rfl⟩, call_meets F.slot_tuple_mul ⟨_, ho, rfl⟩ F.entry_tuple_mul (F.args_tuple_mul_2 _ _) (tup_one l its.toArray n dd sl t) ⟨ho, ⟨.ref l, H, I, rfl, q1 rfl⟩⟩⟩)
  · have c1 : (its.toArray.isEmpty || k == 1) = false := by
      rw [hn, Bool.false_or]
      exact beq_eq_false_iff_ne.mpr h1
    have e0 : (List.replicate k.toNat xs).flatten = [] := by rw [show k.toNat = 0 by omega]; rfl
    have q3 := q2 h1
    rw [e0] at q3
    refine wpAny_binaryOp_repeat_ref (T := "tuple") (U := "int") (by decide) ⟨_, ho, rfl⟩ (fun s' => typeIs_int s' k t) noFill_tuple_mul F.fills_int_mul F.slot_int_rmul repeat_tuple F.slot_int_index.lookup
      (call_meets F.slot_int_rmul (typeIs_int s k t) F.entry_int_rmul (F.args_int_rmul_2 _ _) (int_rmul_tuple k t l its.toArray n dd sl)
        ⟨ho, rfl, ⟨_, ho, rfl⟩, call_meets F.slot_tuple_mul ⟨_, ho, rfl⟩ F.entry_tuple_mul (F.args_tuple_mul_2 _ _) (tup_nought l its.toArray n dd sl k t (by omega) (by omega) c1) ⟨ho, ?_⟩⟩)
    refine ⟨.ref s.heap.objs.size, _, I.laid (t' := s.toks) (o := .tup []) (fun b ob q => Heap.get?_push_of_some _ q) (Nat.le_refl _) ?_, rfl, q3 _ (I.hok.fresh (Nat.le_refl _))⟩
    exact ⟨Nat.zero_le _, [], .nil, IsTup.new _ _⟩
end Pl
/-! for i, x in enumerate(a tuple). -/
namespace Pl
open PySem PySem.Spec
open PyProof.Rows hiding St
open L2
open Sem (wp)
open AutoSeq1 (wpAny_loadPart')
theorem meets_enumT (l : Addr) (items : Array Value) (n : Nat) (dct : Option Addr) (sl : Array (Option Value)) :
    Meets (Builtin.«enumerate.__new__» ⟨[.type "enumerate", .ref l], []⟩) (fun _ R s => s.heap.get? l = some { cls := .type "tuple", dict := dct, data := .seq items n, slots := sl } ∧
      R (.ok (.ret (.ref (s.heap.push { cls := .type "tuple_iterator", data := .fields #[.ref l, .int 0 0] }).objs.size)))
        { s with heap := (s.heap.push { cls := .type "tuple_iterator", data := .fields #[.ref l, .int 0 0] }).push { cls := .type "enumerate", data := .fields #[.none, .bool false, .ref s.heap.objs.size, rawInt 0, .none, .none] } }) :=
  .of_wp fun prog w A R s h => by
    obtain ⟨hp, g, d, tk, os⟩ := s; obtain ⟨hl, h⟩ := h
    have hsub := sub_enumerate
    have hL : Heap.IsTuple (Shared.heap ⟨hp, g, d, tk, os⟩) l items := ⟨_, hl, rfl, n, rfl⟩
    wp_walk using wpAny_loadPart' hl
    refine wpAny_stack_any fun st => wpAny_pure ?_
    split
    · rename_i c _ _ _ _ _
      cases (c == Value.type "enumerate")
      · wp_walk using wpAny_loadPart' hl, wpAny_pyIter_tuple hL
        exact ⟨_, rfl, h⟩
      · wp_walk using wpAny_loadPart' hl, wpAny_pyIter_tuple hL
        exact ⟨_, rfl, h⟩
    · wp_walk using wpAny_loadPart' hl, wpAny_pyIter_tuple hL
      exact ⟨_, rfl, h⟩
section
variable {prog : Program} {w : World} {A : Around} {E : Value → Shared → Prop} {s : Shared}
theorem call_enumT {l : Addr} {items : Array Value} {Q : Value → Shared → Prop} (hL : s.heap.IsTuple l items)
    (h : ∀ h', IsEnum h' (s.heap.objs.size + 1) s.heap.objs.size 0 .none → h'.IsTupleIter s.heap.objs.size l 0 → h'.objs.size = s.heap.objs.size + 2 →
      (∀ b o, s.heap.get? b = some o → h'.get? b = some o) → Q (.ref (s.heap.objs.size + 1)) { s with heap := h' }) :
    wpAny (model prog w) A (call (.type "enumerate") [.ref l]) Q E s := by
  obtain ⟨⟨c, dct, dt, sl⟩, hl, hc, n, hd⟩ := hL
  replace hc : c = .type "tuple" := hc
  replace hd : dt = .seq items n := hd
  subst hc hd
  refine callType_new F.called_enumerate (by decide) (F.typeCall_enumerate_1 _) (F.newCall_enumerate_1 _) (fun obj => F.args_object_init_2 obj _) F.entry_enumerate_new
    (meets_enumT l items n dct sl) ⟨hl, ?_⟩
  have hz : (s.heap.push { cls := .type "tuple_iterator", data := .fields #[.ref l, .int 0 0] }).objs.size = s.heap.objs.size + 1 := Heap.size_push ..
  show _ ∧ _
  rw [hz]
  have he : IsEnum ((s.heap.push { cls := .type "tuple_iterator", data := .fields #[.ref l, .int 0 0] }).push
      { cls := .type "enumerate", data := .fields #[.none, .bool false, .ref s.heap.objs.size, rawInt 0, .none, .none] }) (s.heap.objs.size + 1) s.heap.objs.size 0 .none := by
    have := Heap.get?_push_size (s.heap.push { cls := .type "tuple_iterator", data := .fields #[.ref l, .int 0 0] })
      (o := { cls := .type "enumerate", data := .fields #[.none, .bool false, .ref s.heap.objs.size, rawInt 0, .none, .none] }) rfl
    rw [hz] at this; exact this
  refine ⟨⟨_, he, rfl⟩, h _ he ⟨_, Heap.get?_push_of_some _ (Heap.get?_push_size _ rfl), rfl, rfl⟩ (by rw [Heap.size_push, hz]) fun b o x => Heap.get?_push_of_some _ (Heap.get?_push_of_some _ x)⟩
end
/-- the tuple at a, each item in a new pair -/
def IteT (K : PySem.W.Frag) (a : Addr) : L2.It :=
  ⟨fun i H => ∃ (xs : List V) (x : V), SqT K H a xs ∧ xs[i]? = some x, fun i H v H' => ∃ T x, v = .ref T ∧ H T = none ∧ H' = upd H T (.tup [.int (i : Nat), x]) ∧ ∀ xs, SqT K H a xs → xs[i]? = some x, fun i H => ∃ xs : List V, SqT K H a xs ∧ xs.length ≤ i⟩
theorem turn_enumT {P : Program} {w : World} {K : PySem.W.Frag} {elts : List Expr} {kk : Nat} {tpos : Pos} (a e it : Addr) :
    Turn P w K (.Tuple elts kk tpos) (IteT K a) [e, it] e (fun i h => (∃ old, IsEnum h e it ((i : Nat) : Int) old) ∧ h.IsTupleIter it a i ∧ e ≠ it ∧ a ≠ it ∧ a ≠ e) where
  mem := by simp
  obj := fun i h st b hb => by
    obtain ⟨⟨old, he⟩, ⟨o, ho, hc, hd⟩, _⟩ := st
    have e' : b = e ∨ b = it := by simpa using hb
    rcases e' with z | z
    · rw [z]; exact ⟨_, he, fun v q => nomatch q⟩
    · rw [z]; exact ⟨o, ho, fun v q => by rw [hd] at q; cases q⟩
  keep := fun i h h' st k => let ⟨⟨old, he⟩, hi, hne⟩ := st; ⟨⟨old, k e (by simp) _ he⟩, hi.at fun o q => k it (by simp) o q, hne⟩
  item := by
    intro X hP hw hK hc i pins s σ H E I hf st hg
    subst hP hw hK
    obtain ⟨⟨old, he⟩, hit, hne, hai, hae⟩ := st
    obtain ⟨xs, x, hq, hx⟩ := hg
    obtain ⟨its, rv, p, hz⟩ := I.tuple hq
    obtain ⟨u, hu, ru⟩ := rv.get hx
    have hul : i < its.length := (List.getElem?_eq_some_iff.mp hu).1
    have hel : e < s.heap.objs.size := Heap.lt_size he
    have hil : it < s.heap.objs.size := by obtain ⟨_, q, _⟩ := hit; exact Heap.lt_size q
    have D := Draws.tuple (prog := X.prog) (w := X.w) (A := X.A.in1) (by show X.A.handled = none; exact I.ok.hd hc) it a hai its.toArray
    refine wpAny_pyNext_enum_itemD D he ⟨hit, (show s.heap.IsTuple a its.toArray from p)⟩ (by simpa using hul) hne (by simp; exact ⟨hne, fun z => hae z.symm⟩) fun u' h' tk hP ho hit' hT hsz hk => ?_
    have eu : u' = u := by
      have : its.toArray[i]? = some u := by simpa using hu
      rw [this] at hP
      exact (Option.some.inj hP).symm
    subst eu
    refine ⟨_, rfl, wpAny_letOwnedTupleGo_enum (s := { s with heap := h', toks := tk + 1 }) ho fun h'' he' sb => ?_⟩
    have hT2 : h''.get? s.heap.objs.size = some { cls := .type "tuple", data := .seq #[.int i tk, u'] } := (sb.2 _ (Nat.ne_of_gt hel)).trans hT
    have new : ObjOk X.prog X.w (upd H s.heap.objs.size (.tup [.int (i : Nat), x])) h'' s.heap.objs.size (.tup [.int (i : Nat), x]) :=
      ⟨by show 2 ≤ sizeLine; decide, [.int i tk, u'], .cons ⟨_, rfl⟩ (.cons ru .nil), ⟨_, hT2, rfl, _, rfl⟩⟩
    have I1 : Inv X pins σ (upd H s.heap.objs.size (.tup [.int (i : Nat), x])) { s with heap := h'', toks := tk + 1 } :=
      I.turnedNew (ch := [e, it]) (fun b ob hb q => (sb.2 b (fun z => hb (by simp [z]))).trans (hk b ob (fun z => hb (by simp [z])) (fun z => hb (by simp [z])) q)) hf (Nat.le_refl _) new
    refine ⟨.ref s.heap.objs.size, _, I1, rfl, ⟨_, x, rfl, I.hok.fresh (Nat.le_refl _), rfl, fun ys hy => by rw [I.tuple_inj hy hq]; exact hx⟩, ⟨⟨u', ?_⟩, hit'.1.at fun o q => (sb.2 it (Ne.symm hne)).trans q, hne, hai, hae⟩, fun b hb => ?_⟩
    · have e1 : ((i + 1 : Nat) : Int) = (i : Int) + 1 := by omega
      rw [e1]; exact he'
    · have hb' : b < s.heap.objs.size := by
        have e' : b = e ∨ b = it := by simpa using hb
        rcases e' with z | z
        · rw [z]; exact hel
        · rw [z]; exact hil
      rw [upd_ne (Nat.ne_of_lt hb')]
      exact (hf b hb).1
  done := by
    intro X hP hw hK hc i pins s σ H E I hf st hg
    subst hP hw hK
    obtain ⟨⟨old, he⟩, hit, hne, hai, hae⟩ := st
    obtain ⟨xs, hq, hx⟩ := hg
    obtain ⟨its, rv, p, hz⟩ := I.tuple hq
    obtain ⟨f0, f1, f2, f3, f4, f5⟩ := hf it (by simp)
    have hl := rv.length
    have hT : s.TypeIs (.ref e) "enumerate" := ⟨_, he, rfl⟩
    unfold pyNext
    refine wpAny_bind (wpAny_attempt (wpAny_callSpecial?_slot (name := Str.ofString "__next__") hT F.slot_enumerate_next
      (wpAny_call_entry F.slot_enumerate_next hT F.entry_enumerate_next ?_ (F.args_enumerate_next_1 _))))
    show wpAny _ _ (field (.ref e) 2 >>= _) _ _ _
    refine wpAny_bind (wpAny_field he rfl (x := .ref it) rfl ?_)
    refine wpAny_bind (wpAny_nextOf_tuple_end (items := its.toArray) (by show X.A.handled = none; exact I.ok.hd hc) hit (show s.heap.IsTuple a its.toArray from p) (by simp; omega) fun h' x he' hx' => ?_)
    obtain ⟨o, ho, hc'⟩ := hx'
    refine wpAny_bind (wpAny_isInstance (T := "StopIteration") (b := true) ⟨o, ho, hc'⟩ isSubtype_stop ?_)
    exact wpAny_pure ⟨rfl, I.turned (t' := s.toks) (fun b o hb q => he' b o hb q) f0 f1 f3 f4 f5⟩
  self := fun A i s Q E st h => let ⟨⟨_, he⟩, _⟩ := st; wpAny_pyIter_enum he h
def iEnumT (K : PySem.W.Frag) (ta : TA) : TI := fun σ H R => ta σ H fun vs H1 => ∃ a xs, vs = [.ref a] ∧ SqT K H1 a xs ∧ R (IteT K a) H1
theorem pi_enumT {X : Cx} {e : Expr} {ta : TA} {p pos tpos : Pos} {elts : List Expr} {kk : Nat} (hg : Gl X "enumerate") (hm : X.mg "enumerate" = none) (ha : PA X [e] ta) (hs : starEach [e] X.env = [(false, eval e X.env)] := by rfl) :
    PI X (.Tuple elts kk tpos) (.Call (.Name "enumerate" p) [e] [] pos) (iEnumT X.K ta) := by
  refine ⟨fun pins s σ H R I h => ?_⟩
  refine Call_ (ld_blt I hg hm boot_enumerate (PyProof.Rows.callWith_type1 (thn (ha.run pos pins s σ H _ I h) fun us s1 ⟨vs, H1, I1, r1, q1⟩ => ?_) hs rfl))
  obtain ⟨a, xs, ex, hq, q⟩ := q1
  subst ex
  cases r1 with
  | cons r rr =>
    cases rr
    cases r
    obtain ⟨its, rv, p', hz⟩ := I1.tuple hq
    have hal : a < s1.heap.objs.size := by
      obtain ⟨o, ho, _⟩ := p'
      exact Heap.lt_size ho
    refine call_enumT (show s1.heap.IsTuple a its.toArray from p') fun h' he hit hsz hk => wpAny_pyIter_enum he ?_
    have I2 : Inv X pins σ H1 { s1 with heap := h' } := I1.kept (t' := s1.toks) hk
    refine ⟨s1.heap.objs.size + 1, [s1.heap.objs.size + 1, s1.heap.objs.size], _, _, H1, rfl, I2, turn_enumT a (s1.heap.objs.size + 1) s1.heap.objs.size, ⟨⟨.none, he⟩, hit, Nat.succ_ne_self _, Nat.ne_of_lt hal, Nat.ne_of_lt (Nat.lt_succ_of_lt hal)⟩, fun b hb => ?_, q⟩
    have e' : b = s1.heap.objs.size + 1 ∨ b = s1.heap.objs.size := by simpa using hb
    have hle : s1.heap.objs.size ≤ b := by
      rcases e' with z | z
      · rw [z]; exact Nat.le_add_right _ _
      · rw [z]; exact Nat.le_refl _
    exact I1.fpOk hle (I1.hok.fresh hle)
end Pl
/-! How the interpreter's states stand in the model's. -/
namespace Pl
open PySem PySem.Spec L2

/-- where the defs, the classes, the errors' classes stand; F: lists that a def of the stack still changes; bw: whether they may be read -/
structure Adr where
  fn : Nat → Addr
  cl : Nat → Addr
  xc : Nat → Addr
  wd : World
  F : List Addr
  bw : Bool
abbrev Adr.w (A : Adr) (F : List Addr) : Adr := { A with F := F }
abbrev Adr.b (A : Adr) (b : Bool) : Adr := { A with bw := b }
/-- a tuple of the top -/
def KT (K : PySem.W.Frag) (a : Addr) (vs : List V) : Prop :=
  ∃ (o : Obj) (its : Array Value) (n : Nat), K.lookup a = some o ∧ o.cls = .type "tuple" ∧ o.data = .seq its n ∧ its.size ≤ sizeLine ∧ Vals vs its.toList
/-- a list of the top -/
def KL (K : PySem.W.Frag) (a : Addr) (vs : List V) : Prop :=
  ∃ (o : Obj) (its : Array Value) (n : Nat), K.lookup a = some o ∧ o.cls = .type "list" ∧ o.dict = none ∧ o.data = .seq its n ∧ its.size ≤ sizeLine ∧ Vals vs its.toList
/-- a list that nobody changes any more -/
def LV (A : Adr) (K : PySem.W.Frag) (M : List Addr) (H : Hp) (a : Addr) (vs : List V) : Prop := Rd H a (.lst vs) ∧ a ∉ M ∧ a ∉ A.F
theorem LV.sq {A : Adr} {K : PySem.W.Frag} {M : List Addr} {H : Hp} {a : Addr} {vs : List V} (h : LV A K M H a vs) : SqL K H a vs := .inl h.1
/-- what a dict of the top may hold -/
def WV (A : Adr) : D → V → Prop
  | .int i, v => v = .int i
  | .str x, v => v = .str x
  | .fn f, v => v = .ref (A.fn f)
  | _, _ => False
/-- a dict of the top -/
def WD (A : Adr) (K : PySem.W.Frag) (a : Addr) (ks : List Str) (ds : List D) : Prop :=
  ks.length = ds.length ∧ (∃ es n, KDict K A.wd a es n) ∧ ∀ z, match getA z (ks.zip ds) with
    | some d => ∃ u v, PySem.W.nsIn K a z = some (some u) ∧ RelV v u ∧ WV A d v
    | none => PySem.W.nsIn K a z = some none

section
variable (A : Adr) (K : PySem.W.Frag) (M : List Addr) (H : Hp)
mutual
inductive RD : D → V → Prop
  | non : RD .non .non
  | bl (b : Bool) : RD (.bl b) (.bl b)
  | int (i : Int) : RD (.int i) (.int i)
  | str (x : Str) : RD (.str x) (.str x)
  | tup {a : Addr} {vs : List V} {ds : List D} : H a = some (.tup vs) → RDs ds vs → RD (.tup ds) (.ref a)
  | tpk {a : Addr} {vs : List V} {ds : List D} : KT K a vs → RDs ds vs → RD (.tpk ds) (.ref a)
  | lsk {a : Addr} {vs : List V} {ds : List D} : KL K a vs → RDs ds vs → RD (.lsk ds) (.ref a)
  | lst {a : Addr} {vs : List V} {ds : List D} : LV A K M H a vs → RDs ds vs → RD (.lst ds) (.ref a)
  | dct {a : Addr} {ks : List Key} {vs : List V} {ds : List D} : Rd H a (.dK (ks.zip vs)) → ks.length = vs.length → a ∉ M → a ∉ A.F → RDs ds vs → RD (.dct ks ds) (.ref a)
  | ref {i : Nat} {a : Addr} : M[i]? = some a → RD (.ref i) (.ref a)
  | fn (f : Nat) : RD (.fn f) (.ref (A.fn f))
  | dck {a : Addr} {ks : List Str} {ds : List D} : WD A K a ks ds → RD (.dck ks ds) (.ref a)
inductive RDs : List D → List V → Prop
  | nil : RDs [] []
  | cons {d : D} {v : V} {ds : List D} {vs : List V} : RD d v → RDs ds vs → RDs (d :: ds) (v :: vs)
end
/-- pairs -/
inductive RKs {κ : Type} : List (κ × D) → List (κ × V) → Prop
  | nil : RKs [] []
  | cons {x : κ} {d : D} {v : V} {ds : List (κ × D)} {vs : List (κ × V)} : RD A K M H d v → RKs ds vs → RKs ((x, d) :: ds) ((x, v) :: vs)
/-- an object of the store at its place -/
def OR (a : Addr) : Ob → Prop
  | .lst ds => noLs ds = true ∧ ∃ vs, H a = some (.lst vs) ∧ RDs A K M H ds vs
  | .dk kvs => noLs (kvs.map (·.2)) = true ∧ ∃ ws, H a = some (.dK ws) ∧ RKs A K M H kvs ws
  | .dt kvs => noLs (kvs.map (·.2)) = true ∧ ∃ ws, H a = some (.dT ws) ∧ RKs A K M H kvs ws
  | .ins c fs => noLs (fs.map (·.2)) = true ∧ ∃ dx ws, H a = some (.ins (A.cl c) dx ws) ∧ RKs A K M H fs ws
  | .fz kvs => noLs (kvs.map (·.2)) = true ∧ ∃ od ws, H a = some (.frz od (.dK ws)) ∧ RKs A K M H kvs ws
/-- the store stands at M -/
structure HR (S : Sto) : Prop where
  len : M.length = S.length
  nd : M.Nodup
  ob : ∀ (i : Nat) (o : Ob), S[i]? = some o → ∃ a, M[i]? = some a ∧ OR A K M H a o
/-- the slots -/
structure SR (σ : St) (ρ : Loc) : Prop where
  len : σ.length = ρ.length
  at_ : ∀ (i : Nat) (d : D), ρ[i]? = some (.v d) → ∃ v, σ[i]? = some (some v) ∧ RD A K M H d v
  ow : A.bw = true → ∀ (i : Nat) (ds : List D), ρ[i]? = some (.own ds) → ∃ a vs, σ[i]? = some (some (.ref a)) ∧ H a = some (.lst vs) ∧ a ∉ M ∧ a ∉ A.F ∧ RDs A K M H ds vs
/-- a result; H0: the heap where its making began -/
def RR (H0 : Hp) : R → V → Prop
  | .v d, v => RD A K M H d v
  | .l ds, v => ∃ a vs, v = .ref a ∧ H0 a = none ∧ a ∉ M ∧ a ∉ A.F ∧ H a = some (.lst vs) ∧ RDs (A.w (a :: A.F)) K M H ds vs
  | .d kvs, v => ∃ a ws, v = .ref a ∧ H0 a = none ∧ a ∉ M ∧ a ∉ A.F ∧ H a = some (.dK ws) ∧ RKs A K M H kvs ws
  | .t kvs, v => ∃ a ws, v = .ref a ∧ H0 a = none ∧ a ∉ M ∧ H a = some (.dT ws) ∧ RKs A K M H kvs ws
inductive RRs (H0 : Hp) : List R → List V → Prop
  | nil : RRs H0 [] []
  | cons {d : R} {v : V} {ds : List R} {vs : List V} : RR A K M H H0 d v → RRs H0 ds vs → RRs H0 (d :: ds) (v :: vs)
end
structure At (A : Adr) (K : PySem.W.Frag) (σ : St) (H : Hp) (ρ : Loc) (S : Sto) (M : List Addr) : Prop where
  hr : HR A K M H S
  sr : SR A K M H σ ρ
  ff : ∀ a ∈ A.F, ∃ o, H a = some o
/-- what a run leaves of what stood -/
structure Stp (K : PySem.W.Frag) (M : List Addr) (H : Hp) (M' : List Addr) (H' : Hp) : Prop where
  ext : ∃ N, M' = M ++ N ∧ ∀ b ∈ N, H b = none
  keep : ∀ a o, H a = some o → a ∉ M → H' a = some o
  grow : ∀ a, H' a = none → H a = none
  tup : ∀ a vs, H a = some (.tup vs) → H' a = some (.tup vs)
  frz : ∀ a od u, H a = some (.frz od u) → H' a = some (.frz od u)

/-- what statements leave of what stood -/
structure StpS (K : PySem.W.Frag) (O M : List Addr) (H : Hp) (O' M' : List Addr) (H' : Hp) : Prop where
  ext : ∃ N, M' = M ++ N ∧ ∀ b ∈ N, H b = none
  keep : ∀ a o, H a = some o → a ∉ M → a ∉ O → H' a = some o ∧ a ∉ O'
  grow : ∀ a, H' a = none → H a = none
  tup : ∀ a vs, H a = some (.tup vs) → H' a = some (.tup vs)
  frz : ∀ a od u, H a = some (.frz od u) → H' a = some (.frz od u)
section
variable {A : Adr} {K : PySem.W.Frag} {M M' M1 M2 : List Addr} {H H' H0 H1 H2 : Hp}
theorem Stp.refl : Stp K M H M H := ⟨⟨[], by simp, fun _ h => by simp at h⟩, fun _ _ h _ => h, fun _ h => h, fun _ _ h => h, fun _ _ _ h => h⟩
theorem Stp.at_ (s : Stp K M H M' H') {i : Nat} {a : Addr} (h : M[i]? = some a) : M'[i]? = some a := by
  obtain ⟨N, e, _⟩ := s.ext
  rw [e, List.getElem?_append_left (List.getElem?_eq_some_iff.mp h).1]
  exact h
theorem Stp.trans (a : Stp K M H M1 H1) (b : Stp K M1 H1 M2 H2) : Stp K M H M2 H2 := by
  obtain ⟨N1, e1, f1⟩ := a.ext
  obtain ⟨N2, e2, f2⟩ := b.ext
  refine ⟨⟨N1 ++ N2, by rw [e2, e1, List.append_assoc], fun x hx => ?_⟩, fun x o h n => ?_, fun x h => a.grow x (b.grow x h), fun x vs h => b.tup x vs (a.tup x vs h), fun x od u h => b.frz x od u (a.frz x od u h)⟩
  · rcases List.mem_append.mp hx with hx | hx
    · exact f1 x hx
    · exact a.grow x (f2 x hx)
  · refine b.keep x o (a.keep x o h n) fun hm => ?_
    rw [e1] at hm
    rcases List.mem_append.mp hm with hm | hm
    · exact n hm
    · rw [f1 x hm] at h
      cases h
theorem Stp.nin (s : Stp K M H M' H') {a : Addr} {o : HO} (h : H a = some o) (n : a ∉ M) : a ∉ M' := fun hm => by
  obtain ⟨N, e, f⟩ := s.ext
  rw [e] at hm
  rcases List.mem_append.mp hm with hm | hm
  · exact n hm
  · rw [f a hm] at h
    cases h
theorem Stp.live (s : Stp K M H M' H') {a : Addr} (h : ∃ o, H a = some o) : ∃ o, H' a = some o := by
  obtain ⟨o, h⟩ := h
  cases e : H' a with
  | none => rw [s.grow a e] at h; cases h
  | some u => exact ⟨u, rfl⟩
theorem Rd.keep (s : Stp K M H M' H') {a : Addr} {o : HO} (h : Rd H a o) (n : a ∉ M) : Rd H' a o := by
  rcases h with h | ⟨u, h⟩
  · exact .inl (s.keep _ _ h n)
  · exact .inr ⟨u, s.keep _ _ h n⟩
theorem Rd.nin (s : Stp K M H M' H') {a : Addr} {o : HO} (h : Rd H a o) (n : a ∉ M) : a ∉ M' := by
  rcases h with h | ⟨u, h⟩
  · exact s.nin h n
  · exact s.nin h n
theorem LV.mono (s : Stp K M H M' H') {a : Addr} {vs : List V} (h : LV A K M H a vs) : LV A K M' H' a vs := ⟨Rd.keep s h.1 h.2.1, Rd.nin s h.1 h.2.1, h.2.2⟩
theorem StpS.nin {O O' : List Addr} (s : StpS K O M H O' M' H') {a : Addr} {o : HO} (h : H a = some o) (n : a ∉ M) : a ∉ M' := fun hm => by
  obtain ⟨N, e, f⟩ := s.ext
  rw [e] at hm
  rcases List.mem_append.mp hm with hm | hm
  · exact n hm
  · rw [f a hm] at h
    cases h
theorem StpS.at_ {O O' : List Addr} (s : StpS K O M H O' M' H') {i : Nat} {a : Addr} (h : M[i]? = some a) : M'[i]? = some a := by
  obtain ⟨N, e, _⟩ := s.ext
  rw [e, List.getElem?_append_left (List.getElem?_eq_some_iff.mp h).1]
  exact h
theorem Rd.keepS {O O' : List Addr} (s : StpS K O M H O' M' H') {a : Addr} {o : HO} (h : Rd H a o) (n : a ∉ M) (f : a ∉ O) : Rd H' a o ∧ a ∉ M' ∧ a ∉ O' := by
  rcases h with h | ⟨u, h⟩
  · obtain ⟨h1, h2⟩ := s.keep _ _ h n f
    exact ⟨.inl h1, s.nin h n, h2⟩
  · obtain ⟨h1, h2⟩ := s.keep _ _ h n f
    exact ⟨.inr ⟨u, h1⟩, s.nin h n, h2⟩
mutual
theorem RD.monoS {F' : List Addr} (s : StpS K A.F M H F' M' H') : ∀ {d : D} {v : V}, RD A K M H d v → RD (A.w F') K M' H' d v
  | _, _, .non => .non
  | _, _, .bl b => .bl b
  | _, _, .int i => .int i
  | _, _, .str x => .str x
  | _, _, .tup h r => .tup (s.tup _ _ h) (RDs.monoS s r)
  | _, _, .tpk h r => .tpk h (RDs.monoS s r)
  | _, _, .lsk h r => .lsk h (RDs.monoS s r)
  | _, _, .lst h r => .lst (Rd.keepS s h.1 h.2.1 h.2.2) (RDs.monoS s r)
  | _, _, .dct h e n f r => .dct (Rd.keepS s h n f).1 e (Rd.keepS s h n f).2.1 (Rd.keepS s h n f).2.2 (RDs.monoS s r)
  | _, _, .ref h => .ref (s.at_ h)
  | _, _, .fn f => .fn f
  | _, _, .dck h => .dck h
theorem RDs.monoS {F' : List Addr} (s : StpS K A.F M H F' M' H') : ∀ {ds : List D} {vs : List V}, RDs A K M H ds vs → RDs (A.w F') K M' H' ds vs
  | _, _, .nil => .nil
  | _, _, .cons h r => .cons (RD.monoS s h) (RDs.monoS s r)
end
mutual
theorem RD.mono (s : Stp K M H M' H') : ∀ {d : D} {v : V}, RD A K M H d v → RD A K M' H' d v
  | _, _, .non => .non
  | _, _, .bl b => .bl b
  | _, _, .int i => .int i
  | _, _, .str x => .str x
  | _, _, .tup h r => .tup (s.tup _ _ h) (RDs.mono s r)
  | _, _, .tpk h r => .tpk h (RDs.mono s r)
  | _, _, .lsk h r => .lsk h (RDs.mono s r)
  | _, _, .lst h r => .lst (h.mono s) (RDs.mono s r)
  | _, _, .dct h e n f r => .dct (Rd.keep s h n) e (Rd.nin s h n) f (RDs.mono s r)
  | _, _, .ref h => .ref (s.at_ h)
  | _, _, .fn f => .fn f
  | _, _, .dck h => .dck h
theorem RDs.mono (s : Stp K M H M' H') : ∀ {ds : List D} {vs : List V}, RDs A K M H ds vs → RDs A K M' H' ds vs
  | _, _, .nil => .nil
  | _, _, .cons h r => .cons (RD.mono s h) (RDs.mono s r)
end
theorem RKs.mono {κ : Type} (s : Stp K M H M' H') : ∀ {ds : List (κ × D)} {vs : List (κ × V)}, RKs A K M H ds vs → RKs A K M' H' ds vs
  | _, _, .nil => .nil
  | _, _, .cons h r => .cons (h.mono s) (RKs.mono s r)
theorem SR.mono {σ : St} {ρ : Loc} (s : Stp K M H M' H') (h : SR A K M H σ ρ) : SR A K M' H' σ ρ := ⟨h.len, fun i d e => by
  obtain ⟨v, e1, r⟩ := h.at_ i d e
  exact ⟨v, e1, r.mono s⟩, fun b i ds e => by
  obtain ⟨a, vs, e1, ha, n, f, r⟩ := h.ow b i ds e
  exact ⟨a, vs, e1, s.keep _ _ ha n, s.nin ha n, f, r.mono s⟩⟩
theorem RR.mono {r : R} {v : V} (s : Stp K M H M' H') (h : RR A K M H H0 r v) : RR A K M' H' H0 r v := by
  cases r with
  | v d => exact RD.mono s h
  | l ds =>
    obtain ⟨a, vs, e, n0, n, f, ha, r⟩ := h
    exact ⟨a, vs, e, n0, s.nin ha n, f, s.keep a _ ha n, r.mono s⟩
  | d ds =>
    obtain ⟨a, vs, e, n0, n, f, ha, r⟩ := h
    exact ⟨a, vs, e, n0, s.nin ha n, f, s.keep a _ ha n, r.mono s⟩
  | t ds =>
    obtain ⟨a, vs, e, n0, n, ha, r⟩ := h
    exact ⟨a, vs, e, n0, s.nin ha n, s.keep a _ ha n, r.mono s⟩
/-- from a later beginning to an earlier one -/
theorem RR.base {r : R} {v : V} (s : Stp K M1 H1 M2 H2) (h : RR A K M H H2 r v) : RR A K M H H1 r v := by
  cases r with
  | v d => exact h
  | l ds =>
    obtain ⟨a, vs, e, n0, q⟩ := h
    exact ⟨a, vs, e, s.grow a n0, q⟩
  | d ds =>
    obtain ⟨a, vs, e, n0, q⟩ := h
    exact ⟨a, vs, e, s.grow a n0, q⟩
  | t ds =>
    obtain ⟨a, vs, e, n0, q⟩ := h
    exact ⟨a, vs, e, s.grow a n0, q⟩
theorem RRs.mono {rs : List R} {vs : List V} (s : Stp K M H M' H') (h : RRs A K M H H0 rs vs) : RRs A K M' H' H0 rs vs := by
  induction h with
  | nil => exact .nil
  | cons h _ ih => exact .cons (h.mono s) ih
theorem RRs.base {rs : List R} {vs : List V} (s : Stp K M1 H1 M2 H2) (h : RRs A K M H H2 rs vs) : RRs A K M H H1 rs vs := by
  induction h with
  | nil => exact .nil
  | cons h _ ih => exact .cons (h.base s) ih
theorem RDs.length : ∀ {ds : List D} {vs : List V}, RDs A K M H ds vs → ds.length = vs.length
  | _, _, .nil => rfl
  | _, _, .cons _ r => by rw [List.length_cons, List.length_cons, r.length]
theorem RDs.get : ∀ {ds : List D} {vs : List V} {i : Nat} {d : D}, RDs A K M H ds vs → ds[i]? = some d → ∃ v, vs[i]? = some v ∧ RD A K M H d v
  | _, _, _, _, .nil, e => by simp at e
  | _, _, 0, _, .cons h _, e => by
    simp at e
    subst e
    exact ⟨_, rfl, h⟩
  | _, _, i + 1, _, .cons _ r, e => by
    obtain ⟨v, e1, h⟩ := RDs.get (i := i) r (by simpa using e)
    exact ⟨v, by simpa using e1, h⟩
theorem RDs.append : ∀ {ds es : List D} {vs ws : List V}, RDs A K M H ds vs → RDs A K M H es ws → RDs A K M H (ds ++ es) (vs ++ ws)
  | _, _, _, _, .nil, r => r
  | _, _, _, _, .cons h r, q => .cons h (r.append q)
theorem RDs.take : ∀ {ds : List D} {vs : List V} (n : Nat), RDs A K M H ds vs → RDs A K M H (ds.take n) (vs.take n)
  | _, _, 0, _ => .nil
  | _, _, _ + 1, .nil => .nil
  | _, _, n + 1, .cons h r => .cons h (r.take n)
theorem RDs.drop : ∀ {ds : List D} {vs : List V} (n : Nat), RDs A K M H ds vs → RDs A K M H (ds.drop n) (vs.drop n)
  | _, _, 0, r => r
  | _, _, _ + 1, .nil => .nil
  | _, _, n + 1, .cons _ r => RDs.drop n r
theorem RDs.set : ∀ {ds : List D} {vs : List V} {d : D} {v : V} (n : Nat), RD A K M H d v → RDs A K M H ds vs → RDs A K M H (ds.set n d) (vs.set n v)
  | _, _, _, _, _, _, .nil => .nil
  | _, _, _, _, 0, q, .cons _ r => .cons q r
  | _, _, _, _, n + 1, q, .cons h r => .cons h (RDs.set n q r)
theorem RDs.dropLast : ∀ {ds : List D} {vs : List V}, RDs A K M H ds vs → RDs A K M H ds.dropLast vs.dropLast
  | _, _, .nil => .nil
  | _, _, .cons _ .nil => .nil
  | _, _, .cons h (.cons h2 r) => .cons h (RDs.dropLast (.cons h2 r))
theorem RDs.eraseIdx : ∀ {ds : List D} {vs : List V} (n : Nat), RDs A K M H ds vs → RDs A K M H (ds.eraseIdx n) (vs.eraseIdx n)
  | _, _, n, .nil => by
    cases n <;> exact .nil
  | _, _, 0, .cons _ r => r
  | _, _, n + 1, .cons h r => .cons h (RDs.eraseIdx n r)
theorem RDs.rev : ∀ {ds : List D} {vs : List V}, RDs A K M H ds vs → RDs A K M H ds.reverse vs.reverse
  | _, _, .nil => .nil
  | _, _, .cons h r => by
    rw [List.reverse_cons, List.reverse_cons]
    exact r.rev.append (.cons h .nil)
theorem RDs.rep {ds : List D} {vs : List V} (h : RDs A K M H ds vs) : ∀ k : Nat, RDs A K M H (List.replicate k ds).flatten (List.replicate k vs).flatten
  | 0 => .nil
  | k + 1 => by
    rw [List.replicate_succ, List.replicate_succ, List.flatten_cons, List.flatten_cons]
    exact h.append (RDs.rep h k)
theorem RKs.len {κ : Type} : ∀ {ds : List (κ × D)} {vs : List (κ × V)}, RKs A K M H ds vs → ds.length = vs.length
  | _, _, .nil => rfl
  | _, _, .cons _ r => by rw [List.length_cons, List.length_cons, r.len]
theorem RKs.keys {κ : Type} : ∀ {ds : List (κ × D)} {vs : List (κ × V)}, RKs A K M H ds vs → ds.map (·.1) = vs.map (·.1)
  | _, _, .nil => rfl
  | _, _, .cons _ r => by rw [List.map_cons, List.map_cons, r.keys]
theorem RKs.vals {κ : Type} : ∀ {ds : List (κ × D)} {vs : List (κ × V)}, RKs A K M H ds vs → RDs A K M H (ds.map (·.2)) (vs.map (·.2))
  | _, _, .nil => .nil
  | _, _, .cons h r => .cons h r.vals
theorem RKs.of {κ : Type} : ∀ {ks : List κ} {ds : List D} {vs : List V}, RDs A K M H ds vs → RKs A K M H (ks.zip ds) (ks.zip vs)
  | [], _, _, _ => .nil
  | _ :: _, _, _, .nil => .nil
  | _ :: _, _, _, .cons h r => .cons h (RKs.of r)
section
variable {κ : Type} [DecidableEq κ]
theorem valV_cons {k g : κ} {u : V} {r : List (κ × V)} : valV ((g, u) :: r) k = if g = k then some u else valV r k := by
  unfold valV
  rw [List.find?_cons]
  by_cases e : g = k
  · simp [e]
  · simp [e]
theorem RKs.get {k : κ} : ∀ {ds : List (κ × D)} {vs : List (κ × V)}, RKs A K M H ds vs → (getA k ds = none ∧ valV vs k = none) ∨ ∃ d v, getA k ds = some d ∧ valV vs k = some v ∧ RD A K M H d v
  | _, _, .nil => .inl ⟨rfl, rfl⟩
  | _, _, .cons (x := x) h r => by
    rw [valV_cons]
    unfold getA
    by_cases e : x = k
    · rw [if_pos e, if_pos e]
      exact .inr ⟨_, _, rfl, rfl, h⟩
    · rw [if_neg e, if_neg e]
      exact r.get
theorem RKs.any {k : κ} : ∀ {ds : List (κ × D)} {vs : List (κ × V)}, RKs A K M H ds vs → (ds.any fun p => decide (p.1 = k)) = (vs.any fun p => decide (p.1 = k))
  | _, _, .nil => rfl
  | _, _, .cons h r => by rw [List.any_cons, List.any_cons, r.any]
theorem RKs.mapv {k : κ} {d : D} {v : V} (q : RD A K M H d v) : ∀ {ds : List (κ × D)} {vs : List (κ × V)}, RKs A K M H ds vs → RKs A K M H (ds.map fun p => if p.1 = k then (p.1, d) else p) (vs.map fun p => if p.1 = k then (p.1, v) else p)
  | _, _, .nil => .nil
  | _, _, .cons (x := x) h r => by
    rw [List.map_cons, List.map_cons]
    by_cases e : x = k
    · simp only [if_pos e]
      exact .cons q (RKs.mapv q r)
    · simp only [if_neg e]
      exact .cons h (RKs.mapv q r)
theorem RKs.app {κ : Type} : ∀ {ds es : List (κ × D)} {vs ws : List (κ × V)}, RKs A K M H ds vs → RKs A K M H es ws → RKs A K M H (ds ++ es) (vs ++ ws)
  | _, _, _, _, .nil, r => r
  | _, _, _, _, .cons h r, q => .cons h (r.app q)
theorem RKs.putM {k : κ} {d : D} {v : V} {ds : List (κ × D)} {vs : List (κ × V)} (q : RD A K M H d v) (r : RKs A K M H ds vs) : RKs A K M H (putM k d ds) (putK vs k v) := by
  unfold Pl.putM putK
  rw [r.any]
  split
  · exact r.mapv q
  · exact r.app (.cons q .nil)
theorem RKs.del {k : κ} : ∀ {ds : List (κ × D)} {vs : List (κ × V)}, RKs A K M H ds vs → RKs A K M H (delA k ds) (dropK vs k)
  | _, _, .nil => .nil
  | _, _, .cons (x := x) h r => by
    unfold delA dropK
    rw [List.filter_cons, List.filter_cons]
    by_cases e : x ≠ k
    · rw [if_pos (by simpa using e), if_pos (by simpa using e)]
      exact .cons h r.del
    · rw [if_neg (by simpa using e), if_neg (by simpa using e)]
      exact r.del
theorem RKs.merge : ∀ {ds : List (κ × D)} {vs : List (κ × V)} {es : List (κ × D)} {ws : List (κ × V)}, RKs A K M H ds vs → RKs A K M H es ws → RKs A K M H (ds.foldl (fun acc kv => Pl.putM kv.1 kv.2 acc) es) (vs.foldl (fun acc kv => putK acc kv.1 kv.2) ws)
  | _, _, _, _, .nil, q => q
  | _, _, _, _, .cons h r, q => by
    rw [List.foldl_cons, List.foldl_cons]
    exact r.merge (q.putM h)
end
/-! ### fields -/
theorem RKs.look {f : Str} {fs : List (Str × D)} {ws : List (Str × V)} (r : RKs A K M H fs ws) : (getA f fs = none ∧ ws.lookup f = none) ∨ ∃ d v, getA f fs = some d ∧ ws.lookup f = some v ∧ RD A K M H d v := by
  induction r with
  | nil => exact .inl ⟨rfl, rfl⟩
  | @cons x d v ds vs h r ih =>
    rw [List.lookup_cons]
    unfold getA
    by_cases e : x = f
    · subst e
      rw [if_pos rfl, beq_self_eq_true]
      exact .inr ⟨_, _, rfl, rfl, h⟩
    · rw [if_neg e, beq_eq_false_iff_ne.mpr (fun z => e z.symm)]
      exact ih
theorem RKs.putF {f : Str} {d : D} {v : V} (q : RD A K M H d v) {fs : List (Str × D)} {ws : List (Str × V)} (r : RKs A K M H fs ws) : RKs A K M H (putA f d fs) (putF f v ws) := by
  induction r with
  | nil => exact .cons q .nil
  | @cons x d' v' ds vs h r ih =>
    unfold putA L2.putF
    by_cases e : x = f
    · rw [if_pos e, if_pos e]
      exact .cons q r
    · rw [if_neg e, if_neg e]
      exact .cons h ih
/-! ### values without lists -/
mutual
theorem RD.noL {F : List Addr} {b : Bool} : ∀ {d : D} {v : V}, noL d = true → RD A K M H d v → RD { A with F := F, bw := b } K M H d v
  | _, _, _, .non => .non
  | _, _, _, .bl b => .bl b
  | _, _, _, .int i => .int i
  | _, _, _, .str x => .str x
  | _, _, e, .tup h r => .tup h (RDs.noL e r)
  | _, _, e, .tpk h r => .tpk h (RDs.noL e r)
  | _, _, e, .lsk h r => .lsk h (RDs.noL e r)
  | _, _, e, .lst h r => by cases e
  | _, _, e, .dct h _ n _ r => by cases e
  | _, _, _, .ref h => .ref h
  | _, _, _, .fn f => .fn f
  | _, _, _, .dck h => .dck h
theorem RDs.noL {F : List Addr} {b : Bool} : ∀ {ds : List D} {vs : List V}, noLs ds = true → RDs A K M H ds vs → RDs { A with F := F, bw := b } K M H ds vs
  | _, _, _, .nil => .nil
  | _, _, e, .cons h r => by
    have e := Bool.and_eq_true_iff.mp (show (Pl.noL _ && noLs _) = true from e)
    exact .cons (RD.noL e.1 h) (RDs.noL e.2 r)
end
end
end Pl
/-! Steps of states. -/
namespace Pl
open PySem PySem.Spec L2
section
variable {A : Adr} {K : PySem.W.Frag} {M M' M1 M2 : List Addr} {H H' H0 H1 H2 : Hp} {σ : St} {ρ : Loc} {S : Sto}
mutual
theorem RD.sub {F : List Addr} {b : Bool} (hf : ∀ a ∈ F, a ∈ A.F) : ∀ {d : D} {v : V}, RD A K M H d v → RD { A with F := F, bw := b } K M H d v
  | _, _, .non => .non
  | _, _, .bl b => .bl b
  | _, _, .int i => .int i
  | _, _, .str x => .str x
  | _, _, .tup h r => .tup h (RDs.sub hf r)
  | _, _, .tpk h r => .tpk h (RDs.sub hf r)
  | _, _, .lsk h r => .lsk h (RDs.sub hf r)
  | _, _, .lst h r => .lst ⟨h.1, h.2.1, fun z => h.2.2 (hf _ z)⟩ (RDs.sub hf r)
  | _, _, .dct h e n f r => .dct h e n (fun z => f (hf _ z)) (RDs.sub hf r)
  | _, _, .ref h => .ref h
  | _, _, .fn f => .fn f
  | _, _, .dck h => .dck h
theorem RDs.sub {F : List Addr} {b : Bool} (hf : ∀ a ∈ F, a ∈ A.F) : ∀ {ds : List D} {vs : List V}, RDs A K M H ds vs → RDs { A with F := F, bw := b } K M H ds vs
  | _, _, .nil => .nil
  | _, _, .cons h r => .cons (RD.sub hf h) (RDs.sub hf r)
end
theorem RDs.tl {a : Addr} {ds : List D} {vs : List V} (h : RDs (A.w (a :: A.F)) K M H ds vs) : RDs A K M H ds vs := RDs.sub (A := A.w (a :: A.F)) (F := A.F) (b := A.bw) (fun _ h => List.mem_cons_of_mem _ h) h
mutual
theorem RD.addF {L : Addr} (n : H L = none) : ∀ {d : D} {v : V}, RD A K M H d v → RD (A.w (L :: A.F)) K M H d v
  | _, _, .non => .non
  | _, _, .bl b => .bl b
  | _, _, .int i => .int i
  | _, _, .str x => .str x
  | _, _, .tup h r => .tup h (RDs.addF n r)
  | _, _, .tpk h r => .tpk h (RDs.addF n r)
  | _, _, .lsk h r => .lsk h (RDs.addF n r)
  | _, _, .lst h r => .lst ⟨h.1, h.2.1, fun z => (List.mem_cons.mp z).elim (fun e => by
      subst e
      rcases h.1 with h | ⟨o, h⟩
      · rw [n] at h; cases h
      · rw [n] at h; cases h) h.2.2⟩ (RDs.addF n r)
  | _, _, .dct h e q f r => .dct h e q (fun z => (List.mem_cons.mp z).elim (fun e => by
      subst e
      rcases h with h | ⟨o, h⟩
      · rw [n] at h; cases h
      · rw [n] at h; cases h) f) (RDs.addF n r)
  | _, _, .ref h => .ref h
  | _, _, .fn f => .fn f
  | _, _, .dck h => .dck h
theorem RDs.addF {L : Addr} (n : H L = none) : ∀ {ds : List D} {vs : List V}, RDs A K M H ds vs → RDs (A.w (L :: A.F)) K M H ds vs
  | _, _, .nil => .nil
  | _, _, .cons h r => .cons (RD.addF n h) (RDs.addF n r)
end
theorem SR.addF {L : Addr} (n : H L = none) (h : SR A K M H σ ρ) : SR (A.w (L :: A.F)) K M H σ ρ := ⟨h.len, fun i d e => by
  obtain ⟨v, e1, r⟩ := h.at_ i d e
  exact ⟨v, e1, r.addF n⟩, fun b i ds e => by
  obtain ⟨a, vs, e1, ha, m, f, r⟩ := h.ow b i ds e
  exact ⟨a, vs, e1, ha, m, fun z => (List.mem_cons.mp z).elim (fun e => by
    subst e
    rw [n] at ha; cases ha) f, r.addF n⟩⟩
theorem SR.sub {F : List Addr} (hf : ∀ a ∈ F, a ∈ A.F) (h : SR A K M H σ ρ) : SR (A.w F) K M H σ ρ := ⟨h.len, fun i d e => by
  obtain ⟨v, e1, r⟩ := h.at_ i d e
  exact ⟨v, e1, r.sub hf⟩, fun b i ds e => by
  obtain ⟨a, vs, e1, ha, m, f, r⟩ := h.ow b i ds e
  exact ⟨a, vs, e1, ha, m, fun z => f (hf _ z), r.sub hf⟩⟩
theorem RKs.chg {κ : Type} {A' : Adr} (f : ∀ d v, RD A K M H d v → RD A' K M H d v) : ∀ {ds : List (κ × D)} {vs : List (κ × V)}, RKs A K M H ds vs → RKs A' K M H ds vs
  | _, _, .nil => .nil
  | _, _, .cons h r => .cons (f _ _ h) (RKs.chg f r)
theorem RKs.noL {κ : Type} {F : List Addr} {b : Bool} : ∀ {ds : List (κ × D)} {vs : List (κ × V)}, noLs (ds.map (·.2)) = true → RKs A K M H ds vs → RKs { A with F := F, bw := b } K M H ds vs
  | _, _, _, .nil => .nil
  | _, _, e, .cons h r => by
    have e := Bool.and_eq_true_iff.mp (show (Pl.noL _ && noLs _) = true from e)
    exact .cons (RD.noL e.1 h) (RKs.noL e.2 r)
theorem OR.free {F : List Addr} {b : Bool} {a : Addr} {o : Ob} (h : OR A K M H a o) : OR { A with F := F, bw := b } K M H a o := by
  cases o with
  | lst ds =>
    obtain ⟨n, vs, h1, r⟩ := h
    exact ⟨n, vs, h1, r.noL n⟩
  | dk ds =>
    obtain ⟨n, vs, h1, r⟩ := h
    exact ⟨n, vs, h1, r.noL n⟩
  | dt ds =>
    obtain ⟨n, vs, h1, r⟩ := h
    exact ⟨n, vs, h1, r.noL n⟩
  | ins c ds =>
    obtain ⟨n, dx, vs, h1, r⟩ := h
    exact ⟨n, dx, vs, h1, r.noL n⟩
  | fz ds =>
    obtain ⟨n, dx, vs, h1, r⟩ := h
    exact ⟨n, dx, vs, h1, r.noL n⟩
theorem HR.free {F : List Addr} {b : Bool} (h : HR A K M H S) : HR { A with F := F, bw := b } K M H S :=
  ⟨h.len, h.nd, fun i o e => by
    obtain ⟨a, e1, q⟩ := h.ob i o e
    exact ⟨a, e1, q.free⟩⟩
theorem OR.mono {a : Addr} {o : Ob} (s : Stp K M H M' H') (e : H' a = H a) (h : OR A K M H a o) : OR A K M' H' a o := by
  cases o with
  | lst ds =>
    obtain ⟨n, vs, h1, r⟩ := h
    exact ⟨n, vs, e.trans h1, r.mono s⟩
  | dk ds =>
    obtain ⟨n, vs, h1, r⟩ := h
    exact ⟨n, vs, e.trans h1, r.mono s⟩
  | dt ds =>
    obtain ⟨n, vs, h1, r⟩ := h
    exact ⟨n, vs, e.trans h1, r.mono s⟩
  | ins c ds =>
    obtain ⟨n, dx, vs, h1, r⟩ := h
    exact ⟨n, dx, vs, e.trans h1, r.mono s⟩
  | fz ds =>
    obtain ⟨n, dx, vs, h1, r⟩ := h
    exact ⟨n, dx, vs, e.trans h1, r.mono s⟩
/-- what stands at M -/
def Mu : HO → Prop
  | .lst _ => True
  | .dK _ => True
  | .dT _ => True
  | .ins _ _ _ => True
  | _ => False
theorem OR.mu {a : Addr} {o : Ob} (h : OR A K M H a o) (hl : o.live = true) : ∃ u, H a = some u ∧ Mu u := by
  cases o with
  | lst ds =>
    obtain ⟨_, vs, h1, r⟩ := h
    exact ⟨_, h1, trivial⟩
  | dk ds =>
    obtain ⟨_, vs, h1, r⟩ := h
    exact ⟨_, h1, trivial⟩
  | dt ds =>
    obtain ⟨_, vs, h1, r⟩ := h
    exact ⟨_, h1, trivial⟩
  | ins c ds =>
    obtain ⟨_, dx, vs, h1, r⟩ := h
    exact ⟨_, h1, trivial⟩
  | fz ds => cases hl
theorem OR.ex {a : Addr} {o : Ob} (h : OR A K M H a o) : ∃ u, H a = some u := by
  cases o with
  | lst ds =>
    obtain ⟨_, vs, h1, r⟩ := h
    exact ⟨_, h1⟩
  | dk ds =>
    obtain ⟨_, vs, h1, r⟩ := h
    exact ⟨_, h1⟩
  | dt ds =>
    obtain ⟨_, vs, h1, r⟩ := h
    exact ⟨_, h1⟩
  | ins c ds =>
    obtain ⟨_, dx, vs, h1, r⟩ := h
    exact ⟨_, h1⟩
  | fz ds =>
    obtain ⟨_, dx, vs, h1, r⟩ := h
    exact ⟨_, h1⟩
/-- a new object, nobody's -/
theorem Stp.new {p : Addr} {o : HO} (n : H p = none) : Stp K M H M (upd H p o) :=
  ⟨⟨[], by simp, fun _ h => by simp at h⟩, fun a u h _ => by
    rw [upd_ne (ne_of_none h n)]
    exact h, fun a h => by
    by_cases e : a = p
    · rw [e]
      exact n
    · rw [upd_ne e] at h
      exact h, fun a vs h => by
    rw [upd_ne (ne_of_none h n)]
    exact h, fun a od u h => by
    rw [upd_ne (ne_of_none h n)]
    exact h⟩
/-- the same, told to the store -/
theorem Stp.join {p : Addr} (s : Stp K M H M1 H1) (n : H p = none) : Stp K M H (M1 ++ [p]) H1 := by
  obtain ⟨N, e, f⟩ := s.ext
  refine ⟨⟨N ++ [p], by rw [e, List.append_assoc], fun b hb => ?_⟩, s.keep, s.grow, s.tup, s.frz⟩
  rcases List.mem_append.mp hb with hb | hb
  · exact f b hb
  · rw [List.mem_singleton.mp hb]
    exact n
theorem HR.mem (h : HR A K M H S) {a : Addr} (m : a ∈ M) : ∃ u, H a = some u := by
  obtain ⟨i, hi, e⟩ := List.getElem_of_mem m
  have hS : i < S.length := by rw [← h.len]; exact hi
  obtain ⟨b, e1, q⟩ := h.ob i S[i] (List.getElem?_eq_getElem hS)
  rw [List.getElem?_eq_getElem hi, e] at e1
  cases e1
  exact q.ex
theorem HR.nin (x : HR A K M H S) {p : Addr} (n : H p = none) : p ∉ M := fun m => by
  obtain ⟨u, e⟩ := x.mem m
  rw [n] at e
  cases e
theorem HR.new {p : Addr} {o : HO} (h : HR A K M H S) (n : H p = none) : HR A K M (upd H p o) S :=
  ⟨h.len, h.nd, fun i ob e => by
    obtain ⟨a, e1, q⟩ := h.ob i ob e
    obtain ⟨u, hu⟩ := q.ex
    exact ⟨a, e1, q.mono (.new n) (upd_ne (ne_of_none hu n))⟩⟩
theorem At.mono (s : Stp K M H M' H') (h : At A K σ H ρ S M) {S' : Sto} (hr : HR A K M' H' S') : At A K σ H' ρ S' M' := ⟨hr, h.sr.mono s, fun a m => s.live (h.ff a m)⟩
theorem At.new {p : Addr} {o : HO} (h : At A K σ H ρ S M) (n : H p = none) : At A K σ (upd H p o) ρ S M := h.mono (.new n) (h.hr.new n)
theorem At.nF (x : At A K σ H ρ S M) {p : Addr} (n : H p = none) : p ∉ A.F := fun m => by
  obtain ⟨u, e⟩ := x.ff p m
  rw [n] at e
  cases e
theorem At.nin (x : At A K σ H ρ S M) {p : Addr} (n : H p = none) : p ∉ M := x.hr.nin n
/-- a step of M alone -/
theorem stpM {p : Addr} : (∀ {i : Nat} {a : Addr}, M[i]? = some a → (M ++ [p])[i]? = some a) := fun {i a} h => by
  rw [List.getElem?_append_left (List.getElem?_eq_some_iff.mp h).1]
  exact h
mutual
theorem RD.more {p : Addr} : ∀ {d : D} {v : V}, noL d = true → RD A K M H d v → RD A K (M ++ [p]) H d v
  | _, _, _, .non => .non
  | _, _, _, .bl b => .bl b
  | _, _, _, .int i => .int i
  | _, _, _, .str x => .str x
  | _, _, e, .tup h r => .tup h (RDs.more e r)
  | _, _, e, .tpk h r => .tpk h (RDs.more e r)
  | _, _, e, .lsk h r => .lsk h (RDs.more e r)
  | _, _, e, .lst h r => by cases e
  | _, _, e, .dct h _ n _ r => by cases e
  | _, _, _, .ref h => .ref (stpM h)
  | _, _, _, .fn f => .fn f
  | _, _, _, .dck h => .dck h
theorem RDs.more {p : Addr} : ∀ {ds : List D} {vs : List V}, noLs ds = true → RDs A K M H ds vs → RDs A K (M ++ [p]) H ds vs
  | _, _, _, .nil => .nil
  | _, _, e, .cons h r => by
    have e := Bool.and_eq_true_iff.mp (show (Pl.noL _ && noLs _) = true from e)
    exact .cons (RD.more e.1 h) (RDs.more e.2 r)
end
theorem RKs.more {κ : Type} {p : Addr} : ∀ {ds : List (κ × D)} {vs : List (κ × V)}, noLs (ds.map (·.2)) = true → RKs A K M H ds vs → RKs A K (M ++ [p]) H ds vs
  | _, _, _, .nil => .nil
  | _, _, e, .cons h r => by
    have e := Bool.and_eq_true_iff.mp (show (Pl.noL _ && noLs _) = true from e)
    exact .cons (RD.more e.1 h) (RKs.more e.2 r)
theorem OR.more {p a : Addr} {o : Ob} (h : OR A K M H a o) : OR A K (M ++ [p]) H a o := by
  cases o with
  | lst ds =>
    obtain ⟨n, vs, h1, r⟩ := h
    exact ⟨n, vs, h1, r.more n⟩
  | dk ds =>
    obtain ⟨n, vs, h1, r⟩ := h
    exact ⟨n, vs, h1, r.more n⟩
  | dt ds =>
    obtain ⟨n, vs, h1, r⟩ := h
    exact ⟨n, vs, h1, r.more n⟩
  | ins c ds =>
    obtain ⟨n, dx, vs, h1, r⟩ := h
    exact ⟨n, dx, vs, h1, r.more n⟩
  | fz ds =>
    obtain ⟨n, dx, vs, h1, r⟩ := h
    exact ⟨n, dx, vs, h1, r.more n⟩
/-- an object of nobody's comes into the store -/
theorem HR.join {p : Addr} {o : Ob} (h : HR A K M H S) (np : p ∉ M) (q : OR A K (M ++ [p]) H p o) : HR A K (M ++ [p]) H (S ++ [o]) := by
  refine ⟨by rw [List.length_append, List.length_append, h.len, List.length_singleton, List.length_singleton], ?_, fun i ob e => ?_⟩
  · rw [List.nodup_append]
    exact ⟨h.nd, by simp, fun a ha b hb e => by
      rw [List.mem_singleton.mp hb] at e
      exact np (e ▸ ha)⟩
  · by_cases hi : i < S.length
    · rw [List.getElem?_append_left hi] at e
      obtain ⟨a, e1, r⟩ := h.ob i ob e
      exact ⟨a, stpM e1, r.more⟩
    · have hl : i = S.length := by
        have h2 := (List.getElem?_eq_some_iff.mp e).1
        rw [List.length_append, List.length_singleton] at h2
        omega
      subst hl
      have e2 : o = ob := by simpa using e
      subst e2
      exact ⟨p, by rw [← h.len]; simp, q⟩
theorem HR.last (h : HR A K M H S) (p : Addr) : (M ++ [p])[S.length]? = some p := by
  rw [← h.len]
  simp
/-- a result as a value -/
theorem zip_maps {α β : Type} : ∀ l : List (α × β), (l.map (·.1)).zip (l.map (·.2)) = l
  | [] => rfl
  | (a, b) :: l => by
    rw [List.map_cons, List.map_cons, List.zip_cons_cons, zip_maps l]
theorem toD_ok {r : R} {d : D} {v : V} (e : toD r = some d) (h : RR A K M H H0 r v) : RD A K M H d v := by
  cases r with
  | v d => cases e; exact h
  | l ds =>
    cases e
    obtain ⟨a, vs, rfl, _, n, f, ha, q⟩ := h
    exact .lst ⟨.inl ha, n, f⟩ (RDs.tl q)
  | d kvs =>
    cases e
    obtain ⟨a, ws, rfl, _, n, f, ha, q⟩ := h
    refine .dct (vs := ws.map (·.2)) ?_ (by rw [List.length_map, List.length_map, q.len]) n f q.vals
    rw [q.keys, zip_maps]
    exact .inl ha
  | t kvs => cases e
/-- an object of the store changes -/
theorem HR.at_ {i : Nat} {o : Ob} (h : HR A K M H S) (e : S[i]? = some o) {a : Addr} (ha : M[i]? = some a) : OR A K M H a o := by
  obtain ⟨b, e1, q⟩ := h.ob i o e
  rw [ha] at e1
  cases e1
  exact q
theorem Stp.set {a : Addr} {u : HO} (m : a ∈ M) (n : ∀ o, H a = some o → Mu o) : Stp K M H M (upd H a u) :=
  ⟨⟨[], by simp, fun _ h => by simp at h⟩, fun b o h hb => by
    rw [upd_ne (show b ≠ a from fun e => hb (by rw [e]; exact m))]
    exact h, fun b h => by
    by_cases e : b = a
    · subst e
      rw [upd_same] at h
      cases h
    · rw [upd_ne e] at h
      exact h, fun b vs h => by
    rw [upd_ne fun e => by
      subst e
      exact n _ h]
    exact h, fun b od w h => by
    rw [upd_ne fun e => by
      subst e
      exact n _ h]
    exact h⟩
theorem set_hr {i : Nat} {a : Addr} {o o' : Ob} {u : HO} (x : HR A K M H S) (e : S[i]? = some o) (ha : M[i]? = some a) (q : OR A K M (upd H a u) a o') (hl : o.live = true := by rfl) :
    Stp K M H M (upd H a u) ∧ HR A K M (upd H a u) (S.set i o') := by
  have m : a ∈ M := List.mem_of_getElem? ha
  obtain ⟨w, hw, mw⟩ := (x.at_ e ha).mu hl
  have s : Stp K M H M (upd H a u) := .set m (fun o h => by rw [hw] at h; cases h; exact mw)
  refine ⟨s, by rw [List.length_set]; exact x.len, x.nd, fun j ob ej => ?_⟩
  by_cases hj : i = j
  · subst hj
    rw [List.getElem?_set_self (List.getElem?_eq_some_iff.mp e).1] at ej
    cases ej
    exact ⟨a, ha, q⟩
  · rw [List.getElem?_set_ne hj] at ej
    obtain ⟨b, eb, qb⟩ := x.ob j ob ej
    refine ⟨b, eb, qb.mono s (upd_ne fun z => hj ?_)⟩
    subst z
    exact nd_ix x.nd ha eb
theorem set_ok {i : Nat} {a : Addr} {o o' : Ob} {u : HO} (x : At A K σ H ρ S M) (e : S[i]? = some o) (ha : M[i]? = some a) (q : OR A K M (upd H a u) a o') (hl : o.live = true := by rfl) :
    Stp K M H M (upd H a u) ∧ At A K σ (upd H a u) ρ (S.set i o') M := by
  obtain ⟨s, hr⟩ := set_hr x.hr e ha q hl
  exact ⟨s, x.mono s hr⟩
theorem stp_at {i : Nat} {a : Addr} {o : Ob} {u : HO} (x : HR A K M H S) (e : S[i]? = some o) (ha : M[i]? = some a) (hl : o.live = true := by rfl) : Stp K M H M (upd H a u) := by
  obtain ⟨w, hw, mw⟩ := (x.at_ e ha).mu hl
  exact .set (List.mem_of_getElem? ha) (fun o h => by rw [hw] at h; cases h; exact mw)
theorem SR.set {d : D} {v : V} (i : Nat) (h : SR A K M H σ ρ) (r : RD A K M H d v) : SR A K M H (σ.set i (some v)) (ρ.set i (.v d)) := by
  refine ⟨by rw [List.length_set, List.length_set]; exact h.len, fun j e hj => ?_, fun b j ds hj => ?_⟩
  · by_cases q : i = j
    · subst q
      by_cases hi : i < ρ.length
      · rw [List.getElem?_set_self hi] at hj
        cases hj
        exact ⟨v, List.getElem?_set_self (by rw [h.len]; exact hi), r⟩
      · rw [List.getElem?_eq_none (by rw [List.length_set]; omega)] at hj
        cases hj
    · rw [List.getElem?_set_ne q] at hj ⊢
      exact h.at_ j e hj
  · by_cases q : i = j
    · subst q
      by_cases hi : i < ρ.length
      · rw [List.getElem?_set_self hi] at hj
        cases hj
      · rw [List.getElem?_eq_none (by rw [List.length_set]; omega)] at hj
        cases hj
    · rw [List.getElem?_set_ne q] at hj ⊢
      exact h.ow b j ds hj
/-! ### what a list holds, at its place -/
theorem ls_ok {r : R} {v : V} {ds : List D} (x : HR A K M H S) (h : RR A K M H H0 r v) (e : lsOf S r = some ds) : ∃ a vs, v = .ref a ∧ SqL K H a vs ∧ RDs A K M H ds vs := by
  cases r with
  | l es =>
    cases e
    obtain ⟨a, vs, e, _, _, _, ha, q⟩ := h
    exact ⟨a, vs, e, .of ha, RDs.tl q⟩
  | d _ => cases e
  | t _ => cases e
  | v d =>
    cases d with
    | ref i =>
      cases h with
      | ref hi =>
        simp only [lsOf] at e
        cases q : S[i]? with
        | none => rw [q] at e; cases e
        | some o =>
          rw [q] at e
          cases o with
          | lst es =>
            cases e
            obtain ⟨_, vs, h1, r⟩ := x.at_ q hi
            exact ⟨_, vs, rfl, .of h1, r⟩
          | _ => cases e
    | lst es =>
      cases e
      cases h with
      | lst hc r => exact ⟨_, _, rfl, hc.sq, r⟩
    | lsk es =>
      cases e
      cases h with
      | lsk hc r => exact ⟨_, _, rfl, .inr hc, r⟩
    | _ => cases e
theorem lm_ok {r : R} {v : V} {ds : List D} (x : HR A K M H S) (h : RR A K M H H0 r v) (e : lmOf S r = some ds) : ∃ a vs, v = .ref a ∧ Rd H a (.lst vs) ∧ RDs A K M H ds vs := by
  cases r with
  | l es =>
    cases e
    obtain ⟨a, vs, e, _, _, _, ha, q⟩ := h
    exact ⟨a, vs, e, .inl ha, RDs.tl q⟩
  | d _ => cases e
  | t _ => cases e
  | v d =>
    cases d with
    | ref i =>
      cases h with
      | ref hi =>
        simp only [lmOf, lsOf] at e
        cases q : S[i]? with
        | none => rw [q] at e; cases e
        | some o =>
          rw [q] at e
          cases o with
          | lst es =>
            cases e
            obtain ⟨_, vs, h1, r⟩ := x.at_ q hi
            exact ⟨_, vs, rfl, .inl h1, r⟩
          | _ => cases e
    | lst es =>
      cases e
      cases h with
      | lst hc r => exact ⟨_, _, rfl, hc.1, r⟩
    | _ => cases e
theorem sq_ok {r : R} {v : V} {ds : List D} (x : HR A K M H S) (h : RR A K M H H0 r v) (e : sqOf S r = some ds) : ∃ a vs, v = .ref a ∧ (SqL K H a vs ∨ SqT K H a vs) ∧ RDs A K M H ds vs := by
  have gen : lsOf S r = some ds → ∃ a vs, v = .ref a ∧ (SqL K H a vs ∨ SqT K H a vs) ∧ RDs A K M H ds vs := fun e => by
    obtain ⟨a, vs, e1, h1, r1⟩ := ls_ok x h e
    exact ⟨a, vs, e1, .inl h1, r1⟩
  cases r with
  | l es => exact gen e
  | d es => exact gen e
  | t es => exact gen e
  | v d =>
    cases d with
    | tup es =>
      cases e
      cases h with
      | tup hc r => exact ⟨_, _, rfl, .inr (.of hc), r⟩
    | tpk es =>
      cases e
      cases h with
      | tpk hc r => exact ⟨_, _, rfl, .inr (.inr hc), r⟩
    | _ => exact gen e
/-! ### dicts -/
theorem dk_ok {r : R} {v : V} {kvs : List (Key × D)} (x : HR A K M H S) (h : RR A K M H H0 r v) (e : dkOf S r = some kvs) : ∃ a ws, v = .ref a ∧ Rd H a (.dK ws) ∧ RKs A K M H kvs ws := by
  cases r with
  | l es => cases e
  | t es => cases e
  | d es =>
    cases e
    obtain ⟨a, ws, e, _, _, _, ha, q⟩ := h
    exact ⟨a, ws, e, .inl ha, q⟩
  | v d =>
    cases d with
    | ref i =>
      cases h with
      | ref hi =>
        simp only [dkOf] at e
        cases q : S[i]? with
        | none => rw [q] at e; cases e
        | some o =>
          rw [q] at e
          cases o with
          | dk es =>
            cases e
            obtain ⟨_, vs, h1, r⟩ := x.at_ q hi
            exact ⟨_, vs, rfl, .inl h1, r⟩
          | fz es =>
            cases e
            obtain ⟨_, od, vs, h1, r⟩ := x.at_ q hi
            exact ⟨_, vs, rfl, .inr ⟨od, h1⟩, r⟩
          | _ => cases e
    | dct ks es =>
      cases e
      cases h with
      | dct hc hl n _ r => exact ⟨_, _, rfl, hc, RKs.of r⟩
    | _ => cases e
theorem dt_ok {r : R} {v : V} {kvs : List (List Key × D)} (x : HR A K M H S) (h : RR A K M H H0 r v) (e : dtOf S r = some kvs) : ∃ a ws, v = .ref a ∧ Rd H a (.dT ws) ∧ RKs A K M H kvs ws := by
  cases r with
  | l es => cases e
  | d es => cases e
  | t es =>
    cases e
    obtain ⟨a, ws, e, _, _, ha, q⟩ := h
    exact ⟨a, ws, e, .inl ha, q⟩
  | v d =>
    cases d with
    | ref i =>
      cases h with
      | ref hi =>
        simp only [dtOf] at e
        cases q : S[i]? with
        | none => rw [q] at e; cases e
        | some o =>
          rw [q] at e
          cases o with
          | dt es =>
            cases e
            obtain ⟨_, vs, h1, r⟩ := x.at_ q hi
            exact ⟨_, vs, rfl, .inl h1, r⟩
          | _ => cases e
    | _ => cases e
theorem keyD_ok {d : D} {v : V} {k : Key} (e : keyD d = some k) (h : RD A K M H d v) : v = kV k := by
  cases d with
  | int i => cases e; cases h; rfl
  | str i => cases e; cases h; rfl
  | _ => cases e
theorem keyDs_ok : ∀ {ds : List D} {vs : List V} {ks : List Key}, keyDs ds = some ks → RDs A K M H ds vs → vs = ks.map kV
  | [], _, _, e, r => by
    cases e
    cases r
    rfl
  | d :: ds, _, ks, e, r => by
    cases r with
    | cons h r =>
      simp only [keyDs] at e
      cases e1 : keyD d with
      | none => rw [e1] at e; cases e
      | some k =>
        rw [e1] at e
        cases e2 : keyDs ds with
        | none => rw [e2] at e; cases e
        | some js =>
          rw [e2] at e
          cases e
          rw [keyD_ok e1 h, keyDs_ok e2 r]
          rfl
end
end Pl
/-! The interpreter's readings of expressions: names, constants, operations. -/
namespace L2
open PySem PySem.Spec
section
variable {X : Cx}
theorem PE.imp {e : Expr} {t t' : TE} (h : PE X e t) (i : ∀ σ H Q, t' σ H Q → t σ H Q) : PE X e t' := ⟨fun pins s σ H Q I q => h.run pins s σ H Q I (i σ H Q q)⟩
theorem PT.imp {e : Expr} {t t' : TT} (h : PT X e t) (i : ∀ σ H Q, t' σ H Q → t σ H Q) : PT X e t' := ⟨fun pins s σ H Q I q => h.run pins s σ H Q I (i σ H Q q)⟩
theorem PW.imp {e : Expr} {t t' : TT} (h : PW X e t) (i : ∀ σ H Q, t' σ H Q → t σ H Q) : PW X e t' := ⟨fun wh pins s σ H Q I q => h.run wh pins s σ H Q I (i σ H Q q)⟩
theorem PA.imp {e : List Expr} {t t' : TA} (h : PA X e t) (i : ∀ σ H Q, t' σ H Q → t σ H Q) : PA X e t' := ⟨fun pos pins s σ H Q I q => h.run pos pins s σ H Q I (i σ H Q q)⟩
theorem PS.imp {e : Stmt} {t t' : TS} (h : PS X e t) (i : ∀ D σ H, t' D σ H → t D σ H) : PS X e t' := ⟨fun pins s σ H D I q => h.run pins s σ H D I (i D σ H q)⟩
theorem PSs.imp {e : List Stmt} {t t' : TS} (h : PSs X e t) (i : ∀ D σ H, t' D σ H → t D σ H) : PSs X e t' := ⟨fun pins s σ H D I q => h.run pins s σ H D I (i D σ H q)⟩
theorem PI.imp {tg e : Expr} {t t' : TI} (h : PI X tg e t) (i : ∀ σ H Q, t' σ H Q → t σ H Q) : PI X tg e t' := ⟨fun pins s σ H Q I q => h.run pins s σ H Q I (i σ H Q q)⟩
end
end L2
namespace Pl
open PySem PySem.Spec
open PyProof.Rows hiding St
open L2
abbrev Rel (α β : Type) := List Addr → Hp → Hp → α → β → Prop
section
variable (A : Adr) (K : PySem.W.Frag) (W : WX)
/-- what a run of the interpreter says of a run of the model, from M, H on -/
def Post {α β : Type} (Rl : Rel α β) (σ : St) (ρ : Loc) (M : List Addr) (H : Hp) (o : O α) (Q : β → Hp → Prop) : Prop := match o with
  | .ok a S' => ∀ b H' M', Stp K M H M' H' → At A K σ H' ρ S' M' → Rl M' H' H a b → Q b H'
  | .ex k S' => ∀ H' M', Stp K M H M' H' → At A K σ H' ρ S' M' → W (.ref (A.xc k)) none σ H'
  | .no => False
/-- a relation that bears an earlier beginning -/
def Based {α β : Type} (K : PySem.W.Frag) (Rl : Rel α β) : Prop := ∀ M1 H1 M H2 H' M' a b, Stp K M1 H1 M H2 → Rl M' H' H2 a b → Rl M' H' H1 a b
def RRl : Rel R V := fun M H H0 r v => RR A K M H H0 r v
def RDl : Rel (List D) (List V) := fun M H _ r v => RDs A K M H r v
def RRsl : Rel (List R) (List V) := fun M H H0 r v => RRs A K M H H0 r v
def RB {α : Type} : Rel α α := fun _ _ _ a b => a = b
variable {A K W}
theorem based_R : Based K (RRl A K) := fun _ _ _ _ _ _ _ _ s h => RR.base s h
theorem based_Rs : Based K (RRsl A K) := fun _ _ _ _ _ _ _ _ s h => RRs.base s h
theorem based_D : Based K (RDl A K) := fun _ _ _ _ _ _ _ _ s h => h
theorem based_B {α : Type} : Based K (RB (α := α)) := fun _ _ _ _ _ _ _ _ s h => h
variable {α β γ δ : Type} {σ : St} {ρ : Loc} {M M1 M2 : List Addr} {H H1 H2 H0 : Hp} {S S1 : Sto}
theorem Post.rebase {Rl : Rel α β} {o : O α} {Q : β → Hp → Prop} (b : Based K Rl) (h : Post A K W Rl σ ρ M H o Q) (s : Stp K M H M1 H1) : Post A K W Rl σ ρ M1 H1 o Q := by
  cases o with
  | ok a S' => exact fun v H' M' s' x r => h v H' M' (s.trans s') x (b _ _ _ _ _ _ _ _ s r)
  | ex k S' => exact fun H' M' s' x => h H' M' (s.trans s') x
  | no => exact h
theorem Post.rbR {o : O R} {Q : V → Hp → Prop} (h : Post A K W (RRl A K) σ ρ M H o Q) (s : Stp K M H M1 H1) : Post A K W (RRl A K) σ ρ M1 H1 o Q := Post.rebase based_R h s
theorem Post.rbRs {o : O (List R)} {Q : List V → Hp → Prop} (h : Post A K W (RRsl A K) σ ρ M H o Q) (s : Stp K M H M1 H1) : Post A K W (RRsl A K) σ ρ M1 H1 o Q := Post.rebase based_Rs h s
theorem Post.rbD {o : O (List D)} {Q : List V → Hp → Prop} (h : Post A K W (RDl A K) σ ρ M H o Q) (s : Stp K M H M1 H1) : Post A K W (RDl A K) σ ρ M1 H1 o Q := Post.rebase based_D h s
theorem Post.rbB {o : O α} {Q : α → Hp → Prop} (h : Post A K W RB σ ρ M H o Q) (s : Stp K M H M1 H1) : Post A K W RB σ ρ M1 H1 o Q := Post.rebase based_B h s
theorem Post.imp {Rl : Rel α β} {o : O α} {Q Q' : β → Hp → Prop} (h : Post A K W Rl σ ρ M H o Q) (k : ∀ b H', Q b H' → Q' b H') : Post A K W Rl σ ρ M H o Q' := by
  cases o with
  | ok a S' => exact fun v H' M' s' x r => k _ _ (h v H' M' s' x r)
  | ex k' S' => exact h
  | no => exact h
/-- the first of two runs, from both -/
theorem Post.bind {Rl : Rel α β} {Rl2 : Rel γ δ} {o : O α} {f : α → Sto → O γ} {Q : δ → Hp → Prop} {Q1 : β → Hp → Prop} (h : Post A K W Rl2 σ ρ M H (o.bind f) Q)
    (k : ∀ a S1 v H1 M1, Stp K M H M1 H1 → At A K σ H1 ρ S1 M1 → Rl M1 H1 H a v → Post A K W Rl2 σ ρ M H (f a S1) Q → Q1 v H1) : Post A K W Rl σ ρ M H o Q1 := by
  cases o with
  | ok a S' => exact fun v H' M' s' x r => k a S' v H' M' s' x r h
  | ex k' S' => exact h
  | no => exact h
theorem Post.of {Rl : Rel α β} {x : Option α} {Q : β → Hp → Prop} (h : Post A K W Rl σ ρ M H (O.of S x) Q) : ∃ a, x = some a ∧ ∀ b H' M', Stp K M H M' H' → At A K σ H' ρ S M' → Rl M' H' H a b → Q b H' := by
  cases x with
  | none => exact h.elim
  | some a => exact ⟨a, rfl, h⟩
end
section
variable (P : Pg) (rc : Nat → List D → Sto → O R) (A : Adr) (K : PySem.W.Frag) (W : WX)
def tE (c : E) : TE := fun σ H Q => ∃ Φ ρ S M, At (A.w Φ) K σ H ρ S M ∧ Post (A.w Φ) K W (RRl (A.w Φ) K) σ ρ M H (evE P rc c ρ S) Q
def tT (c : E) : TT := fun σ H Q => ∃ Φ ρ S M, At (A.w Φ) K σ H ρ S M ∧ Post (A.w Φ) K W RB σ ρ M H (boolO (evE P rc c ρ S)) Q
def tEs (c : Es) : TA := fun σ H Q => ∃ Φ ρ S M, At (A.w Φ) K σ H ρ S M ∧ Post (A.w Φ) K W (RDl (A.w Φ) K) σ ρ M H (evEs P rc c ρ S) Q
def tRs (c : Es) : TA := fun σ H Q => ∃ Φ ρ S M, At (A.w Φ) K σ H ρ S M ∧ Post (A.w Φ) K W (RRsl (A.w Φ) K) σ ρ M H (evRs P rc c ρ S) Q
end
section
variable {P : Pg} {rc : Nat → List D → Sto → O R} {A : Adr} {K : PySem.W.Frag} {W : WX} {X : Cx} {pos : Pos}
theorem se_var {i : Nat} {x : Str} (hN : X.N[i]? = some x) (hv : Vis X.env.scope x) (hd : (x == ("__debug__" : Str)) = false) (hcd : (x == ("__classdict__" : Str)) = false) : PE X (.Name x pos) (tE P rc A K W (.var i)) :=
  (pe_var hN hv hd hcd).imp fun σ H Q ⟨Φ, ρ, S, M, x, h⟩ => by
    simp only [evE] at h
    cases e : ρ[i]? with
    | none => rw [e] at h; exact h.elim
    | some o =>
      cases o with
      | un => rw [e] at h; exact h.elim
      | own ds => rw [e] at h; exact h.elim
      | v d =>
        rw [e] at h
        obtain ⟨v, e1, r⟩ := x.sr.at_ i d e
        exact ⟨v, e1, h v H M .refl x r⟩
theorem se_brw {i : Nat} {x : Str} (hb : A.bw = true) (hN : X.N[i]? = some x) (hv : Vis X.env.scope x) (hd : (x == ("__debug__" : Str)) = false) (hcd : (x == ("__classdict__" : Str)) = false) : PE X (.Name x pos) (tE P rc A K W (.brw i)) :=
  (pe_var hN hv hd hcd).imp fun σ H Q ⟨Φ, ρ, S, M, x, h⟩ => by
    simp only [evE] at h
    cases e : ρ[i]? with
    | none => rw [e] at h; exact h.elim
    | some o =>
      cases o with
      | un => rw [e] at h; exact h.elim
      | own ds =>
        rw [e] at h
        obtain ⟨a, vs, e1, ha, n, f, r⟩ := x.sr.ow hb i ds e
        exact ⟨.ref a, e1, h (.ref a) H M .refl x (RD.lst ⟨.inl ha, n, f⟩ r)⟩
      | v d =>
        rw [e] at h
        obtain ⟨v, e1, r⟩ := x.sr.at_ i d e
        exact ⟨v, e1, h v H M .refl x r⟩
theorem se_int {i : Int} {j} : PE X (.Constant (.int i) j pos) (tE P rc A K W (.int i)) := pe_int.imp fun σ H Q ⟨Φ, ρ, S, M, x, h⟩ => h _ H M .refl x (.int i)
theorem se_str {i : Str} {j} : PE X (.Constant (.str i) j pos) (tE P rc A K W (.str i)) := pe_str.imp fun σ H Q ⟨Φ, ρ, S, M, x, h⟩ => h _ H M .refl x (.str i)
theorem se_bl {i : Bool} {j} : PE X (.Constant (.bool i) j pos) (tE P rc A K W (.bl i)) := pe_bl.imp fun σ H Q ⟨Φ, ρ, S, M, x, h⟩ => h _ H M .refl x (.bl i)
theorem se_non {j} : PE X (.Constant .none j pos) (tE P rc A K W .non) := pe_non.imp fun σ H Q ⟨Φ, ρ, S, M, x, h⟩ => h _ H M .refl x .non
/-- a constant of the module -/
def GvOk (A : Adr) (K : PySem.W.Frag) (mg : Str → Option Value) (x : Str) (d : D) : Prop := ∃ u v, mg x = some u ∧ RelV v u ∧ ∀ F M H, RD (A.w F) K M H d v
theorem se_gv {x : Str} (hg : Gl X x) (hm : ∀ d, P.gv x = some d → GvOk A X.K X.mg x d) (hd : (x == ("__debug__" : Str)) = false) : PE X (.Name x pos) (tE P rc A X.K W (.gv x)) := by
  cases e : P.gv x with
  | none =>
    exact PE.imp (t := fun σ H Q => False) ⟨fun _ _ _ _ _ _ z => z.elim⟩ fun σ H Q ⟨Φ, ρ, S, M, x, h⟩ => (by
      simp only [evE, e] at h
      exact h)
  | some d =>
    obtain ⟨u, v, h1, h2, h3⟩ := hm d e
    exact (pe_glob hg h1 h2 hd).imp fun σ H Q ⟨Φ, ρ, S, M, x, h⟩ => by
      simp only [evE, e] at h
      exact h _ H M .refl x (h3 Φ M H)

def Bo.op : Bo → Operator
  | .add => .Add | .sub => .Sub | .mul => .Mult | .mod => .Mod | .fdiv => .FloorDiv | .pow => .Pow
theorem lstR {X : Cx} {pins : List (Addr × Obj)} {σ : St} {H : Hp} {s : Shared} {l : Addr} {xs : List V} (I : Inv X pins σ H s) (hH : Rd H l (.lst xs)) : xs.length ≤ sizeLine ∧ ∃ (its : List Value) (n : Nat), Vals xs its ∧ xs.length = its.length ∧ s.heap.get? l = some { cls := .type "list", data := .seq its.toArray n } := by
  obtain ⟨z, its, n, r, e⟩ := hH.ok I.hok
  exact ⟨z, its, n, r, r.length, e⟩
def rCatR : R2 := fun x y H Q => ∃ l b xs zs, x = .ref l ∧ y = .ref b ∧ Rd H l (.lst xs) ∧ Rd H b (.lst zs) ∧ xs.length + zs.length ≤ sizeLine ∧ ∀ p, H p = none → Q (.ref p) (upd H p (.lst (xs ++ zs)))
theorem op_catR {X : Cx} : OpR X (binaryOp .Add) rCatR := by
  intro pins s σ H x y v u Q I rx ry h
  obtain ⟨l, b, xs, zs, rfl, rfl, hH, hB, hz, q⟩ := h
  cases rx
  cases ry
  obtain ⟨z, its, n, r, hl, e⟩ := lstR I hH
  obtain ⟨z2, its2, n2, r2, hl2, e2⟩ := lstR I hB
  refine PySem.P.add_list e e2 ?_ (by rw [List.size_toArray, List.size_toArray]; omega)
  have ea : its.toArray ++ its2.toArray = (its ++ its2).toArray := by simp
  rw [ea]
  exact ⟨.ref _, _, I.lnew (t' := s.toks) (r.append r2) (by rw [List.length_append]; omega), rfl, q _ I.fresh⟩
def rRepR : R2 := fun x y H Q => ∃ l k xs, x = .ref l ∧ y = .int k ∧ Rd H l (.lst xs) ∧ -(2 ^ 63) ≤ k ∧ k < 2 ^ 63 ∧ xs.length * k.toNat ≤ sizeLine ∧
  ∀ p, H p = none → Q (.ref p) (upd H p (.lst (List.replicate k.toNat xs).flatten))
theorem op_repR {X : Cx} : OpR X (binaryOp .Mult) rRepR := by
  intro pins s σ H x y v u Q I rx ry h
  obtain ⟨l, k, xs, rfl, rfl, hH, h1, h2, hz, q⟩ := h
  cases rx
  obtain ⟨t, rfl⟩ := ry
  obtain ⟨z, its, n, r, hl, e⟩ := lstR I hH
  have hlen : its.toArray.size * k.toNat ≤ sizeLine := by rw [List.size_toArray, ← hl]; exact hz
  have hcap : ¬ its.toArray.size * k.toNat > (2 ^ 63 - 1) / 8 := by
    have : (sizeLine : Nat) ≤ (2 ^ 63 - 1) / 8 := by decide
    omega
  have hfit : ¬ (!Builtin.List.listFitsIndex k) = true := by
    rw [fitsIndex_both h1 h2]
    exact Bool.false_ne_true
  have hlong : ¬ Builtin.List.listTooLong (its.toArray.size * k.toNat) = true := by
    rw [notLongL hlen]
    exact Bool.false_ne_true
  have hnew : List.foldl (fun x1 x2 => x1 ++ x2) #[] (List.replicate (if its.toArray.isEmpty = true then 0 else k.toNat) its.toArray) = (List.replicate k.toNat its).flatten.toArray := by
    have f0 : ∀ m : Nat, List.foldl (fun x1 x2 => x1 ++ x2) #[] (List.replicate m its.toArray) = (List.replicate m its).flatten.toArray := fun m => by
      have := foldl_rep its m []
      rw [List.nil_append] at this
      exact this
    rw [f0]
    cases its with
    | nil => simp
    | cons a r' => rw [if_neg (by simp)]
  refine wpAny_binaryOp_repeat_ref (T := "list") (U := "int") (by decide) ⟨_, e, rfl⟩ (fun s' => typeIs_int s' k t) noFill_list_mul F.fills_int_mul F.slot_int_rmul repeat_list F.slot_int_index.lookup
    (call_meets F.slot_int_rmul (typeIs_int s k t) F.entry_int_rmul (F.args_int_rmul_2 _ _) (int___rmul___int_list k t l its.toArray n)
      ⟨e, rfl, ⟨_, e, rfl⟩, call_meets F.slot_list_mul ⟨_, e, rfl⟩ F.entry_list_mul (F.args_list_mul_2 _ _) (AutoListH.list___mul___list_int_3 l its.toArray n k t hfit hcap hlong) ⟨e, ?_⟩⟩)
  rw [hnew]
  exact ⟨.ref _, _, I.lnew (t' := s.toks) (r.rep k.toNat) (by rw [PyProof.Rows.lm_len_rep_flat, Nat.mul_comm]; exact hz), rfl, q _ I.fresh⟩
def rStr2 : R2 := fun x y H Q => ∃ i j, x = .str i ∧ y = .str j ∧ i.length + j.length ≤ sizeLine ∧ Q (.str (i ++ j)) H
def rB (K : PySem.W.Frag) (op : Bo) : R2 := fun x y H Q => match op with
  | .add => rI0 (fun i j => .int (i + j)) x y H Q ∨ rStr2 x y H Q ∨ rCatA K x y H Q ∨ rCatR x y H Q
  | .sub => rI0 (fun i j => .int (i - j)) x y H Q
  | .mul => rI CMul (fun i j => .int (i * j)) x y H Q ∨ rI CMulW (fun i j => .int (i * j)) x y H Q ∨ rRepR x y H Q ∨ rTms K x y H Q
  | .mod => rI (fun _ j => 0 < j) (fun i j => .int (i % j)) x y H Q
  | .fdiv => rI CDivW (fun i j => .int (i / j)) x y H Q
  | .pow => rI CPow (fun i j => .int (i ^ j.toNat)) x y H Q
theorem op_bin (op : Bo) : OpR X (binaryOp op.op) (rB X.K op) := by
  intro pins s σ H x y v u Q I rx ry h
  cases op with
  | add =>
    rcases h with h | h | h | h
    · exact op_add pins s σ H x y v u Q I rx ry h
    · exact op_add_str pins s σ H x y v u Q I rx ry h
    · exact op_catA pins s σ H x y v u Q I rx ry h
    · exact op_catR pins s σ H x y v u Q I rx ry h
  | sub => exact op_sub pins s σ H x y v u Q I rx ry h
  | mul =>
    rcases h with h | h | h | h
    · exact op_mul pins s σ H x y v u Q I rx ry h
    · exact op_mulW pins s σ H x y v u Q I rx ry h
    · exact op_repR pins s σ H x y v u Q I rx ry h
    · exact op_tms pins s σ H x y v u Q I rx ry h
  | mod => exact op_mod pins s σ H x y v u Q I rx ry h
  | fdiv => exact op_fdivW pins s σ H x y v u Q I rx ry h
  | pow => exact op_pow pins s σ H x y v u Q I rx ry h
/-- a new list -/
theorem new_l {σ : St} {ρ : Loc} {M : List Addr} {H : Hp} {S : Sto} {Q : V → Hp → Prop} {ds : List D} {vs : List V} (x : At A K σ H ρ S M) (r : RDs A K M H ds vs)
    (q : ∀ w H' M', Stp K M H M' H' → At A K σ H' ρ S M' → RR A K M' H' H (.l ds) w → Q w H') {p : Addr} (n : H p = none) : Q (.ref p) (upd H p (.lst vs)) :=
  q _ _ M (.new n) (x.new n) ⟨p, vs, rfl, n, x.nin n, x.nF n, upd_same, RDs.mono (.new n) (r.addF n)⟩
theorem new_t {σ : St} {ρ : Loc} {M : List Addr} {H H0 : Hp} {S : Sto} {Q : V → Hp → Prop} {ds : List D} {vs : List V} (x : At A K σ H ρ S M) (r : RDs A K M H ds vs)
    (q : ∀ w H' M', Stp K M H M' H' → At A K σ H' ρ S M' → RR A K M' H' H0 (.v (.tup ds)) w → Q w H') {p : Addr} (n : H p = none) : Q (.ref p) (upd H p (.tup vs)) :=
  q _ _ M (.new n) (x.new n) (RD.tup upd_same (r.mono (.new n)))
theorem binR_ok {op : Bo} {σ : St} {ρ : Loc} {M : List Addr} {H Hx Hy : Hp} {S : Sto} {x y r : R} {v u : V} {Q : V → Hp → Prop} (a : At A K σ H ρ S M) (e : binR op S x y = some r) (rx : RR A K M H Hx x v) (ry : RR A K M H Hy y u)
    (q : ∀ w H' M', Stp K M H M' H' → At A K σ H' ρ S M' → RR A K M' H' H r w → Q w H') : rB K op v u H Q := by
  have done : ∀ {w}, RR A K M H H r w → Q w H := fun h => q _ H M .refl a h
  have cat : ∀ {xs ys : List D}, lmOf S x = some xs → lmOf S y = some ys → (if xs.length + ys.length ≤ sizeLine then some (R.l (xs ++ ys)) else none) = some r → rCatR v u H Q := fun {xs ys} e1 e2 e => by
    by_cases hl : xs.length + ys.length ≤ sizeLine
    · rw [if_pos hl] at e
      cases e
      obtain ⟨p1, vs, rfl, h1, r1⟩ := lm_ok a.hr rx e1
      obtain ⟨p2, us, rfl, h2, r2⟩ := lm_ok a.hr ry e2
      refine ⟨p1, p2, vs, us, rfl, rfl, h1, h2, by rw [← r1.length, ← r2.length]; exact hl, fun p n => new_l a (r1.append r2) q n⟩
    · rw [if_neg hl] at e
      cases e
  have catO : (match lmOf S x, lmOf S y with
      | some a, some b => if a.length + b.length ≤ sizeLine then some (R.l (a ++ b)) else none
      | _, _ => none) = some r → rCatR v u H Q := fun e => by
    cases e1 : lmOf S x with
    | none => rw [e1] at e; cases e
    | some xs =>
      cases e2 : lmOf S y with
      | none => rw [e1, e2] at e; cases e
      | some ys =>
        rw [e1, e2] at e
        exact cat e1 e2 e
  cases op with
  | add =>
    simp only [binR] at e
    split at e
    · cases e
      cases rx
      cases ry
      exact .inl ⟨_, _, rfl, rfl, done (.int _)⟩
    · split at e
      · next hl =>
        cases e
        cases rx
        cases ry
        exact .inr (.inl ⟨_, _, rfl, rfl, hl, done (.str _)⟩)
      · cases e
    · split at e
      · next hl =>
        cases e
        cases rx with
        | tup h1 r1 =>
          cases ry with
          | tup h2 r2 =>
            refine .inr (.inr (.inl ⟨_, _, _, _, rfl, rfl, .of h1, .of h2, by rw [← r1.length, ← r2.length]; exact hl, fun e => ?_, fun _ e => ?_, fun _ _ p n => new_t a (r1.append r2) q n⟩))
            · subst e
              cases r1
              exact done (RD.tup h2 r2)
            · subst e
              cases r2
              rw [List.append_nil] at done
              exact done (RD.tup h1 r1)
      · cases e
    · exact .inr (.inr (.inr (catO e)))
  | sub =>
    simp only [binR] at e
    split at e
    · cases e
      cases rx
      cases ry
      exact ⟨_, _, rfl, rfl, done (.int _)⟩
    · cases e
  | mul =>
    simp only [binR] at e
    split at e
    · split at e
      · next hl =>
        cases e
        cases rx
        cases ry
        rcases hl with hl | hl
        · exact .inl ⟨_, _, rfl, rfl, hl, done (.int _)⟩
        · exact .inr (.inl ⟨_, _, rfl, rfl, hl, done (.int _)⟩)
      · cases e
    · split at e
      · next xs k hl =>
        cases e
        cases rx with
        | tup h1 r1 =>
          cases ry
          refine .inr (.inr (.inr ⟨_, _, _, rfl, rfl, .of h1, fun z => ?_, hl.2.1, hl.2.2.1, by rw [← r1.length]; exact hl.2.2.2, fun ek => ?_, fun _ p n => new_t a (r1.rep _) q n⟩))
          · subst z
            exact hl.1 r1.length
          · subst ek
            have e5 : (List.replicate (1 : Int).toNat xs).flatten = xs := by
              show (List.replicate 1 xs).flatten = xs
              simp
            rw [e5] at done
            exact done (RD.tup h1 r1)
      · cases e
    · split at e
      · next xs e1 =>
        split at e
        · next hl =>
          cases e
          obtain ⟨p1, vs, rfl, h1, r1⟩ := lm_ok a.hr rx e1
          cases ry
          exact .inr (.inr (.inl ⟨_, _, _, rfl, rfl, h1, hl.1, hl.2.1, by rw [← r1.length]; exact hl.2.2, fun p n => new_l a (r1.rep _) q n⟩))
        · cases e
      · cases e
    · cases e
  | mod =>
    simp only [binR] at e
    split at e
    · split at e
      · next hl =>
        cases e
        cases rx
        cases ry
        exact ⟨_, _, rfl, rfl, hl, done (.int _)⟩
      · cases e
    · cases e
  | fdiv =>
    simp only [binR] at e
    split at e
    · split at e
      · next hl =>
        cases e
        cases rx
        cases ry
        exact ⟨_, _, rfl, rfl, hl, done (.int _)⟩
      · cases e
    · cases e
  | pow =>
    simp only [binR] at e
    split at e
    · split at e
      · next hl =>
        cases e
        cases rx
        cases ry
        exact ⟨_, _, rfl, rfl, hl, done (.int _)⟩
      · cases e
    · cases e
variable {a b c : Expr} {ca cb cc : E}
theorem se_bin {op : Bo} (ha : PE X a (tE P rc A X.K W ca)) (hb : PE X b (tE P rc A X.K W cb)) : PE X (.BinOp a op.op b pos) (tE P rc A X.K W (.bin op ca cb)) := by
  refine (pe_op (op_bin op) ha hb).imp fun σ H Q ⟨Φ, ρ, S, M, x, h⟩ => ⟨Φ, ρ, S, M, x, ?_⟩
  refine Post.bind h fun r1 S1 v H1 M1 s1 x1 rx h1 => ⟨Φ, ρ, S1, M1, x1, ?_⟩
  refine Post.bind (Post.rbR h1 s1) fun r2 S2 u H2 M2 s2 x2 ry h2 => ?_
  obtain ⟨r, e, q⟩ := Post.of (Post.rbR h2 s2)
  exact binR_ok x2 e (rx.mono s2) ry q
end
end Pl
/-! The readings of comparisons, of and, or, not, of a if c else b. -/
namespace Pl
open PySem PySem.Spec
open PyProof.Rows hiding St
open L2
section
variable {A : Adr} {K : PySem.W.Frag} {W : WX} {σ : St} {ρ : Loc} {M : List Addr} {H H0 : Hp} {S : Sto}
theorem mapO {α β : Type} {f : α → β} {x : Option α} {y : β} (e : x.map f = some y) : ∃ z, x = some z ∧ y = f z := by
  cases x with
  | none => cases e
  | some z => cases e; exact ⟨z, rfl, rfl⟩
mutual
theorem pyD_ok : ∀ {d : D} {v : V} {p : PyData}, pyD d = some p → RD A K M H d v → Dp K H v p
  | .non, _, _, e, .non => by cases e; exact .non
  | .bl b, _, _, e, .bl _ => by cases e; exact .bl b
  | .int b, _, _, e, .int _ => by cases e; exact .int b
  | .str b, _, _, e, .str _ => by cases e; exact .str b
  | .tup ds, _, _, e, .tup h r => by
    obtain ⟨ps, e1, rfl⟩ := mapO e
    exact .tup (.of h) (pyDs_ok e1 r)
  | .tpk ds, _, _, e, .tpk h r => by
    obtain ⟨ps, e1, rfl⟩ := mapO e
    exact .tup (.inr h) (pyDs_ok e1 r)
  | .lst ds, _, _, e, .lst h r => by
    obtain ⟨ps, e1, rfl⟩ := mapO e
    exact .lst h.sq (pyDs_ok e1 r)
  | .lsk ds, _, _, e, .lsk h r => by
    obtain ⟨ps, e1, rfl⟩ := mapO e
    exact .lst (.inr h) (pyDs_ok e1 r)
  | .dct _ _, _, _, e, _ => by cases e
  | .ref _, _, _, e, _ => by cases e
  | .fn _, _, _, e, _ => by cases e
  | .dck _ _, _, _, e, _ => by cases e
theorem pyDs_ok : ∀ {ds : List D} {vs : List V} {ps : List PyData}, pyDs ds = some ps → RDs A K M H ds vs → DpAll K H vs ps
  | [], _, _, e, .nil => by cases e; exact .nil
  | d :: ds, _, _, e, .cons h r => by
    simp only [pyDs] at e
    cases e1 : pyD d with
    | none => rw [e1] at e; cases e
    | some p =>
      rw [e1] at e
      obtain ⟨qs, e2, rfl⟩ := mapO e
      exact .cons (pyD_ok e1 h) (pyDs_ok e2 r)
end
theorem pyR_ok (x : HR A K M H S) {r : R} {v : V} {p : PyData} (e : pyR S r = some p) (h : RR A K M H H0 r v) : Dp K H v p := by
  unfold pyR at e
  split at e
  · next a =>
    split at e
    · next es q =>
      obtain ⟨ps, e1, rfl⟩ := mapO e
      cases h with
      | ref hi =>
        obtain ⟨_, vs, h1, r⟩ := x.at_ q hi
        exact .lst (.of h1) (pyDs_ok e1 r)
    · cases e
  · exact pyD_ok e h
  · obtain ⟨ps, e1, rfl⟩ := mapO e
    obtain ⟨a, vs, rfl, _, _, _, ha, q⟩ := h
    exact .lst (.of ha) (pyDs_ok e1 (RDs.tl q))
  · cases e
def Co.op : Co → CmpOp
  | .eq => .Eq | .ne => .NotEq | .lt => .Lt | .le => .LtE | .gt => .Gt | .ge => .GtE | .isN => .Is | .notN => .IsNot | .inn => .In | .nin => .NotIn
def rInT (K : PySem.W.Frag) : R2 := fun x y H Q => ∃ d ds, Dp K H x d ∧ Dp K H y (.tuple ds) ∧ SeqAt.shaped d = true ∧ SeqAt.shaped (.list ds) = true ∧ Q (.bl (ds.any fun z => PyData.eqv z d)) H
def rNotInT (K : PySem.W.Frag) : R2 := fun x y H Q => ∃ d ds, Dp K H x d ∧ Dp K H y (.tuple ds) ∧ SeqAt.shaped d = true ∧ SeqAt.shaped (.list ds) = true ∧ Q (.bl (!ds.any fun z => PyData.eqv z d)) H
theorem op_inT {X : Cx} (hu : X.A.units + 65 < cLine) : OpR X (compareOp .In) (rInT X.K) := by
  intro pins s σ H x y v u Q I rx ry h
  obtain ⟨d, ds, hd, he, sd, se, q⟩ := h
  obtain ⟨as, r1⟩ := Dp.reads I d x v hd rx
  obtain ⟨bs, r2⟩ := Dp.reads I (.tuple ds) y u he ry
  exact SeqAt.in_tuple_reads r2 r1 (SeqAt.canLay_of_shaped se) (SeqAt.canLay_of_shaped sd) (room_in_shaped sd hu) ⟨.bl _, H, I, rfl, q⟩
theorem op_notInT {X : Cx} (hu : X.A.units + 65 < cLine) : OpR X (compareOp .NotIn) (rNotInT X.K) := by
  intro pins s σ H x y v u Q I rx ry h
  obtain ⟨d, ds, hd, he, sd, se, q⟩ := h
  obtain ⟨as, r1⟩ := Dp.reads I d x v hd rx
  obtain ⟨bs, r2⟩ := Dp.reads I (.tuple ds) y u he ry
  exact SeqAt.notIn_tuple_reads r2 r1 (SeqAt.canLay_of_shaped se) (SeqAt.canLay_of_shaped sd) (room_in_shaped sd hu) ⟨.bl _, H, I, rfl, q⟩
/-- a dict of the store, of the top: what it holds at a key -/
def KGet (K : PySem.W.Frag) (w : World) (a : Addr) (y : V) (o : Option V) : Prop := ∃ es n z r, KDict K w a es n ∧ y = .str z ∧ PySem.W.nsIn K a z = some r ∧ RelO o r
def rInK (K : PySem.W.Frag) (w : World) : R2 := fun y x H Q => ∃ a o, x = .ref a ∧ (DGet H a y o ∨ KGet K w a y o) ∧ Q (.bl o.isSome) H
def rNotInK (K : PySem.W.Frag) (w : World) : R2 := fun y x H Q => ∃ a o, x = .ref a ∧ (DGet H a y o ∨ KGet K w a y o) ∧ Q (.bl (!o.isSome)) H
theorem op_inK {X : Cx} (hu : X.A.units + 1 < cLine) : OpR X (compareOp .In) (rInK X.K X.w) := by
  intro pins s σ H x y v u Q I rx ry h
  obtain ⟨a, o, rfl, g | ⟨es, n, z, r, k, rfl, e, ro⟩, q⟩ := h
  · obtain rfl : u = Value.ref a := ry
    exact d_in hu I g rx fun s3 I3 => ⟨.bl o.isSome, H, I3, rfl, q⟩
  · rw [RelO.isSome_eq ro] at q
    exact op_in_kd k pins s σ H _ _ v u Q I rx ry ⟨z, r, rfl, rfl, e, q⟩
theorem op_notInK {X : Cx} (hu : X.A.units + 1 < cLine) : OpR X (compareOp .NotIn) (rNotInK X.K X.w) := by
  intro pins s σ H x y v u Q I rx ry h
  obtain ⟨a, o, rfl, g | ⟨es, n, z, r, k, rfl, e, ro⟩, q⟩ := h
  · obtain rfl : u = Value.ref a := ry
    exact d_notIn hu I g rx fun s3 I3 => ⟨.bl (!o.isSome), H, I3, rfl, q⟩
  · rw [RelO.isSome_eq ro] at q
    exact op_notIn_kd k pins s σ H _ _ v u Q I rx ry ⟨z, r, rfl, rfl, e, q⟩
def rInC : R2 := fun x y H Q => ∃ (c : Nat) (z : Str), x = .str ⟨#[c]⟩ ∧ y = .str z ∧ Q (.bl (decide (c ∈ z.cps.toList))) H
def rNotInC : R2 := fun x y H Q => ∃ (c : Nat) (z : Str), x = .str ⟨#[c]⟩ ∧ y = .str z ∧ Q (.bl (!decide (c ∈ z.cps.toList))) H
def rC (K : PySem.W.Frag) (w : World) (op : Co) : R2 := fun x y H Q => match op with
  | .eq => rEqD K x y H Q
  | .ne => rNeD K x y H Q
  | .lt => rI0 (fun i j => .bl (decide (i < j))) x y H Q
  | .le => rI0 (fun i j => .bl (decide (i ≤ j))) x y H Q
  | .gt => rI0 (fun i j => .bl (decide (j < i))) x y H Q
  | .ge => rI0 (fun i j => .bl (decide (j ≤ i))) x y H Q
  | .isN => y = .non ∧ Q (.bl (decide (x = .non))) H
  | .notN => y = .non ∧ Q (.bl (!decide (x = .non))) H
  | .inn => rInD K x y H Q ∨ rInT K x y H Q ∨ rInK K w x y H Q ∨ rInC x y H Q
  | .nin => rNotInD K x y H Q ∨ rNotInT K x y H Q ∨ rNotInK K w x y H Q ∨ rNotInC x y H Q
theorem op_cmp {X : Cx} (hu : X.A.units + 65 < cLine) (op : Co) : OpR X (compareOp op.op) (rC X.K X.w op) := by
  intro pins s σ H x y v u Q I rx ry h
  cases op with
  | eq => exact op_eqD (by omega) pins s σ H x y v u Q I rx ry h
  | ne => exact op_neD (by omega) pins s σ H x y v u Q I rx ry h
  | lt => exact op_lt pins s σ H x y v u Q I rx ry h
  | le => exact op_le pins s σ H x y v u Q I rx ry h
  | gt => exact op_gt pins s σ H x y v u Q I rx ry h
  | ge => exact op_ge pins s σ H x y v u Q I rx ry h
  | isN => exact op_isN pins s σ H x y v u Q I rx ry h
  | notN => exact op_notN pins s σ H x y v u Q I rx ry h
  | inn =>
    rcases h with h | h | h | h
    · exact op_inD hu pins s σ H x y v u Q I rx ry h
    · exact op_inT hu pins s σ H x y v u Q I rx ry h
    · exact op_inK (by omega) pins s σ H x y v u Q I rx ry h
    · exact op_in_sign pins s σ H x y v u Q I rx ry h
  | nin =>
    rcases h with h | h | h | h
    · exact op_notInD hu pins s σ H x y v u Q I rx ry h
    · exact op_notInT hu pins s σ H x y v u Q I rx ry h
    · exact op_notInK (by omega) pins s σ H x y v u Q I rx ry h
    · exact op_notIn_sign pins s σ H x y v u Q I rx ry h
theorem eqR_ok (a : HR A K M H S) {x y : R} {v u : V} {b : Bool} {H1 : Hp} (e : eqR S x y = some b) (rx : RR A K M H H0 x v) (ry : RR A K M H H1 y u) :
    ∃ d e, Dp K H v d ∧ Dp K H u e ∧ SeqAt.shaped d = true ∧ SeqAt.shaped e = true ∧ PyData.eqv d e = b := by
  unfold eqR at e
  split at e
  · next p q e1 e2 =>
    split at e
    · next hs =>
      rw [Bool.and_eq_true] at hs
      exact ⟨p, q, pyR_ok a e1 rx, pyR_ok a e2 ry, hs.1, hs.2, Option.some.inj e⟩
    · cases e
  · cases e
/-- what a dict holds -/
theorem dg_ok (a : HR A K M H S) {x y : R} {v u : V} {o : Option D} {H1 : Hp} (e : dgR S x y = some o) (rx : RR A K M H H0 x v) (ry : RR A K M H H1 y u) :
    ∃ p w, v = .ref p ∧ (DGet H p u w ∨ KGet K A.wd p u w) ∧ ((o = none ∧ w = none) ∨ ∃ d z, o = some d ∧ w = some z ∧ RD A K M H d z) := by
  unfold dgR at e
  split at e
  · split at e
    · rename_i ks ds _ z
      cases e
      cases ry
      cases rx with
      | @dck p _ _ h =>
        obtain ⟨hl, ⟨es, n, kd⟩, hz⟩ := h
        have hz := hz z
        cases e1 : getA z (ks.zip ds) with
        | none =>
          rw [e1] at hz
          exact ⟨p, none, rfl, .inr ⟨es, n, z, none, kd, rfl, hz, trivial⟩, .inl ⟨rfl, rfl⟩⟩
        | some d =>
          rw [e1] at hz
          obtain ⟨u1, v1, h1, h2, h3⟩ := hz
          refine ⟨p, some v1, rfl, .inr ⟨es, n, z, some u1, kd, rfl, h1, h2⟩, .inr ⟨d, v1, rfl, rfl, ?_⟩⟩
          cases d with
          | int i => cases h3; exact .int i
          | str i => cases h3; exact .str i
          | fn i => cases h3; exact .fn i
          | _ => exact h3.elim
    · cases e
  · split at e
    · next kvs e1 =>
      split at e
      · next d =>
        obtain ⟨k, e2, rfl⟩ := mapO e
        obtain ⟨p, ws, rfl, hp, r⟩ := dk_ok a rx e1
        have hk := keyD_ok e2 (show RD A K M H d u from ry)
        subst hk
        refine ⟨p, valV ws k, rfl, .inl (.inl ⟨ws, k, hp, rfl, rfl⟩), ?_⟩
        rcases r.get (k := k) with ⟨g1, g2⟩ | ⟨d', z, g1, g2, g3⟩
        · exact .inl ⟨g1, g2⟩
        · exact .inr ⟨d', z, g1, g2, g3⟩
      · cases e
    · split at e
      · next kvs e1 =>
        split at e
        · next ds =>
          obtain ⟨k, e2, rfl⟩ := mapO e
          obtain ⟨p, ws, rfl, hp, r⟩ := dt_ok a rx e1
          cases ry with
          | tup hb rs =>
            have hk := keyDs_ok e2 rs
            subst hk
            refine ⟨p, valV ws k, rfl, .inl (.inr ⟨ws, k, _, hp, rfl, hb, rfl⟩), ?_⟩
            rcases r.get (k := k) with ⟨g1, g2⟩ | ⟨d', z, g1, g2, g3⟩
            · exact .inl ⟨g1, g2⟩
            · exact .inr ⟨d', z, g1, g2, g3⟩
        · cases e
      · cases e
theorem dpq {v : V} {ds : List D} {bs : List PyData} {p : Addr} {vs : List V} (hq : SqL K H p vs ∨ SqT K H p vs) (r : RDs A K M H ds vs) (e : pyDs ds = some bs) : Dp K H (.ref p) (.list bs) ∨ Dp K H (.ref p) (.tuple bs) := by
  rcases hq with hq | hq
  · exact .inl (.lst hq (pyDs_ok e r))
  · exact .inr (.tup hq (pyDs_ok e r))
theorem inR_ok (a : HR A K M H S) {x y : R} {v u : V} {b : Bool} {H1 : Hp} (e : inR S x y = some b) (rx : RR A K M H H0 x v) (ry : RR A K M H H1 y u) :
    (∃ d ds, Dp K H v d ∧ (Dp K H u (.list ds) ∨ Dp K H u (.tuple ds)) ∧ SeqAt.shaped d = true ∧ SeqAt.shaped (.list ds) = true ∧ (ds.any fun z => PyData.eqv z d) = b) ∨
    (∃ p w, u = .ref p ∧ (DGet H p v w ∨ KGet K A.wd p v w) ∧ w.isSome = b) ∨ (∃ (c : Nat) (z : Str), v = .str ⟨#[c]⟩ ∧ u = .str z ∧ decide (c ∈ z.cps.toList) = b) := by
  unfold inR at e
  split at e
  · next z =>
    split at e
    · next w =>
      split at e
      · next c hc =>
        cases e
        cases rx
        cases ry
        have hw : w = ⟨#[c]⟩ := by
          obtain ⟨⟨l⟩⟩ := w
          cases (show l = [c] from hc)
          rfl
        exact .inr (.inr ⟨c, z, by rw [hw], rfl, rfl⟩)
      · cases e
    · cases e
  · split at e
    · next ds e0 =>
      split at e
      · next p q e1 e2 =>
        split at e
        · next hs =>
          rw [Bool.and_eq_true] at hs
          obtain ⟨pa, vs, rfl, hq, r⟩ := sq_ok a ry e0
          exact .inl ⟨p, q, pyR_ok a e1 rx, dpq (v := v) hq r e2, hs.1, hs.2, Option.some.inj e⟩
        · cases e
      · cases e
    · obtain ⟨o, e1, rfl⟩ := mapO e
      obtain ⟨p, w, rfl, g, h⟩ := dg_ok a e1 ry rx
      refine .inr (.inl ⟨p, w, rfl, g, ?_⟩)
      rcases h with ⟨rfl, rfl⟩ | ⟨d, z, rfl, rfl, _⟩ <;> rfl
theorem isN_ok {x : R} {v : V} (rx : RR A K M H H0 x v) : (v = .non) ↔ x = .v .non := by
  cases x with
  | l ds =>
    obtain ⟨a, vs, rfl, _⟩ := rx
    exact Iff.intro (fun h => by cases h) (fun h => by cases h)
  | d ds =>
    obtain ⟨a, vs, rfl, _⟩ := rx
    exact Iff.intro (fun h => by cases h) (fun h => by cases h)
  | t ds =>
    obtain ⟨a, vs, rfl, _⟩ := rx
    exact Iff.intro (fun h => by cases h) (fun h => by cases h)
  | v d =>
    cases d <;> cases rx <;> constructor <;> intro h <;> first | rfl | cases h
theorem cmpR_ok {op : Co} {x y : R} {v u : V} {b : Bool} {Hx Hy : Hp} {Q : VK} {wd : World} (a : At A K σ H ρ S M) (e : cmpR op S x y = some b) (rx : RR A K M H Hx x v) (ry : RR A K M H Hy y u) (q : Q (.bl b) H) (hw : A.wd = wd) : rC K wd op v u H Q := by
  subst hw
  cases op with
  | eq =>
    obtain ⟨d, e, h1, h2, h3, h4, h5⟩ := eqR_ok a.hr e rx ry
    exact ⟨d, e, h1, h2, h3, h4, by rw [h5]; exact q⟩
  | ne =>
    obtain ⟨z, e3, rfl⟩ := mapO e
    obtain ⟨d, e, h1, h2, h3, h4, h5⟩ := eqR_ok a.hr e3 rx ry
    exact ⟨d, e, h1, h2, h3, h4, by rw [h5]; exact q⟩
  | inn =>
    rcases inR_ok a.hr e rx ry with ⟨d, ds, h1, h2 | h2, h3, h4, h5⟩ | ⟨p, w, h1, h2, h3⟩ | ⟨c, z, h1, h2, h3⟩
    · exact .inl ⟨d, ds, h1, h2, h3, h4, by rw [h5]; exact q⟩
    · exact .inr (.inl ⟨d, ds, h1, h2, h3, h4, by rw [h5]; exact q⟩)
    · exact .inr (.inr (.inl ⟨p, w, h1, h2, by rw [h3]; exact q⟩))
    · exact .inr (.inr (.inr ⟨c, z, h1, h2, by rw [h3]; exact q⟩))
  | nin =>
    obtain ⟨b', e3, rfl⟩ := mapO e
    rcases inR_ok a.hr e3 rx ry with ⟨d, ds, h1, h2 | h2, h3, h4, h5⟩ | ⟨p, w, h1, h2, h3⟩ | ⟨c, z, h1, h2, h3⟩
    · exact .inl ⟨d, ds, h1, h2, h3, h4, by rw [h5]; exact q⟩
    · exact .inr (.inl ⟨d, ds, h1, h2, h3, h4, by rw [h5]; exact q⟩)
    · exact .inr (.inr (.inl ⟨p, w, h1, h2, by rw [h3]; exact q⟩))
    · exact .inr (.inr (.inr ⟨c, z, h1, h2, by rw [h3]; exact q⟩))
  | isN =>
    simp only [cmpR] at e
    split at e
    · cases ry
      refine ⟨rfl, ?_⟩
      split at e
      · cases e
        rw [decide_eq_true (p := v = .non) ((isN_ok rx).mpr rfl)]
        exact q
      · next hn =>
        cases e
        rw [decide_eq_false (p := v = .non) fun h => hn ((isN_ok rx).mp h)]
        exact q
    · cases e
  | notN =>
    simp only [cmpR] at e
    split at e
    · cases ry
      refine ⟨rfl, ?_⟩
      split at e
      · cases e
        rw [decide_eq_true (p := v = .non) ((isN_ok rx).mpr rfl)]
        exact q
      · next hn =>
        cases e
        rw [decide_eq_false (p := v = .non) fun h => hn ((isN_ok rx).mp h)]
        exact q
    · cases e
  | lt =>
    simp only [cmpR] at e
    split at e
    · cases e; cases rx; cases ry; exact ⟨_, _, rfl, rfl, q⟩
    · cases e
  | le =>
    simp only [cmpR] at e
    split at e
    · cases e; cases rx; cases ry; exact ⟨_, _, rfl, rfl, q⟩
    · cases e
  | gt =>
    simp only [cmpR] at e
    split at e
    · cases e; cases rx; cases ry; exact ⟨_, _, rfl, rfl, q⟩
    · cases e
  | ge =>
    simp only [cmpR] at e
    split at e
    · cases e; cases rx; cases ry; exact ⟨_, _, rfl, rfl, q⟩
    · cases e
end
section
variable {P : Pg} {rc : Nat → List D → Sto → O R} {A : Adr} {W : WX} {X : Cx} {pos : Pos} {a b c : Expr} {ca cb cc : E} {rest : List Expr}
theorem blR_ok {K : PySem.W.Frag} {M : List Addr} {H H0 : Hp} {x : R} {v : V} {b : Bool} (e : blR x = some b) (r : RR A K M H H0 x v) : v = .bl b := by
  unfold blR at e
  split at e
  · cases e
    cases r
    rfl
  · cases e
theorem intR_ok {K : PySem.W.Frag} {M : List Addr} {H H0 : Hp} {x : R} {v : V} {b : Int} (e : intR x = some b) (r : RR A K M H H0 x v) : v = .int b := by
  unfold intR at e
  split at e
  · cases e
    cases r
    rfl
  · cases e
/-- a bool's run, from the value's -/
theorem Post.bool {K : PySem.W.Frag} {σ : St} {ρ : Loc} {M : List Addr} {H : Hp} {o : O R} {Q : Bool → Hp → Prop} (h : Post A K W RB σ ρ M H (boolO o) Q) :
    Post A K W (RRl A K) σ ρ M H o fun x H1 => ∃ k, x = .bl k ∧ Q k H1 := by
  refine Post.bind h fun r S1 v H1 M1 s1 x1 rx h1 => ?_
  obtain ⟨k, e, q⟩ := Post.of h1
  refine ⟨k, blR_ok e rx, q k H1 M1 s1 x1 rfl⟩
/-- .. and the test's, from the value's -/
theorem st_of {e : Expr} {cc : E} (h : PT X e (tB (tE P rc A X.K W cc))) : PT X e (tT P rc A X.K W cc) := h.imp fun σ H Q ⟨Φ, ρ, S, M, x, h⟩ => ⟨Φ, ρ, S, M, x, h.bool⟩
theorem se_un (ha : PE X a (tE P rc A X.K W ca)) : PE X (.UnaryOp .USub a pos) (tE P rc A X.K W (.neg ca)) := by
  refine (pe_un un_neg ha).imp fun σ H Q ⟨Φ, ρ, S, M, x, h⟩ => ⟨Φ, ρ, S, M, x, ?_⟩
  refine Post.bind h fun r1 S1 v H1 M1 s1 x1 rx h1 => ?_
  obtain ⟨r, e, q⟩ := Post.of (h1.rbR s1)
  obtain ⟨i, e3, rfl⟩ := mapO e
  exact ⟨i, intR_ok e3 rx, q _ H1 M1 .refl x1 (.int _)⟩
theorem se_nt (ha : PE X a (tE P rc A X.K W ca)) : PE X (.UnaryOp .Not a pos) (tE P rc A X.K W (.nt ca)) := by
  refine (pe_not ha).imp fun σ H Q ⟨Φ, ρ, S, M, x, h⟩ => ⟨Φ, ρ, S, M, x, ?_⟩
  simp only [evE] at h
  exact (Post.bind (Rl := RB) h fun k S1 v H1 M1 s1 x1 rx h1 => (show Q (.bl (!v)) H1 from by
    cases rx
    exact h1 _ H1 M1 s1 x1 (.bl _))).bool
theorem boolO_bind {α : Type} (o : O α) (f : α → Sto → O R) : boolO (o.bind f) = o.bind fun a S => boolO (f a S) := by
  cases o <;> rfl
theorem st_nt (ha : PT X a (tT P rc A X.K W ca)) : PT X (.UnaryOp .Not a pos) (tT P rc A X.K W (.nt ca)) := by
  refine (pt_not ha).imp fun σ H Q ⟨Φ, ρ, S, M, x, h⟩ => ⟨Φ, ρ, S, M, x, ?_⟩
  simp only [evE] at h
  rw [boolO_bind] at h
  refine Post.bind h fun k S1 v H1 M1 s1 x1 rx h1 => ?_
  cases rx
  exact h1 _ H1 M1 s1 x1 rfl
/-- how the three and-forms read -/
theorem Post.andV {K : PySem.W.Frag} {σ : St} {H : Hp} {Q : VK} {ρ : Loc} {S : Sto} {M : List Addr} {Φ : List Addr} (x : At (A.w Φ) K σ H ρ S M) (h : Post (A.w Φ) K W (RRl (A.w Φ) K) σ ρ M H (evE P rc (.and ca cb) ρ S) Q) :
    Post (A.w Φ) K W RB σ ρ M H (boolO (evE P rc ca ρ S)) fun c H1 => if c = true then tE P rc A K W cb σ H1 Q else Q (.bl false) H1 := by
  simp only [evE] at h
  refine Post.bind h fun k S1 v H1 M1 s1 x1 rx h1 => ?_
  cases rx
  cases k with
  | true => exact ⟨Φ, ρ, S1, M1, x1, Post.rbR h1 s1⟩
  | false => exact h1 _ H1 M1 s1 x1 (.bl _)
theorem Post.orV {K : PySem.W.Frag} {σ : St} {H : Hp} {Q : VK} {ρ : Loc} {S : Sto} {M : List Addr} {Φ : List Addr} (x : At (A.w Φ) K σ H ρ S M) (h : Post (A.w Φ) K W (RRl (A.w Φ) K) σ ρ M H (evE P rc (.or ca cb) ρ S) Q) :
    Post (A.w Φ) K W RB σ ρ M H (boolO (evE P rc ca ρ S)) fun c H1 => if c = true then Q (.bl true) H1 else tE P rc A K W cb σ H1 Q := by
  simp only [evE] at h
  refine Post.bind h fun k S1 v H1 M1 s1 x1 rx h1 => ?_
  cases rx
  cases k with
  | false => exact ⟨Φ, ρ, S1, M1, x1, Post.rbR h1 s1⟩
  | true => exact h1 _ H1 M1 s1 x1 (.bl _)
theorem se_and (ha : PE X a (tE P rc A X.K W ca)) (hb : PE X (.BoolOp .And (b :: rest) pos) (tE P rc A X.K W cb)) : PE X (.BoolOp .And (a :: b :: rest) pos) (tE P rc A X.K W (.and ca cb)) :=
  (pe_and ha hb).imp fun σ H Q ⟨Φ, ρ, S, M, x, h⟩ => ⟨Φ, ρ, S, M, x, (Post.andV x h).bool⟩
theorem se_or (ha : PE X a (tE P rc A X.K W ca)) (hb : PE X (.BoolOp .Or (b :: rest) pos) (tE P rc A X.K W cb)) : PE X (.BoolOp .Or (a :: b :: rest) pos) (tE P rc A X.K W (.or ca cb)) :=
  (pe_or ha hb).imp fun σ H Q ⟨Φ, ρ, S, M, x, h⟩ => ⟨Φ, ρ, S, M, x, (Post.orV x h).bool⟩
theorem tru_of {K : PySem.W.Frag} {M : List Addr} {H H0 : Hp} {x : R} {v : V} {k : Bool} (e : truR x = some k) (r : RR A K M H H0 x v) : TruV K v H k := by
  unfold truR at e
  split at e
  · cases e
    cases r
    exact rfl
  · cases e
    cases r
    exact rfl
  · cases e
    cases r with
    | tup h rs =>
      refine .inr (.inl ⟨_, .of h, ?_⟩)
      cases rs <;> rfl
  · cases e
    obtain ⟨p, vs, e1, _, _, _, hp, rs⟩ := r
    subst e1
    refine .inl ⟨vs, .of hp, ?_⟩
    cases rs <;> rfl
  · cases e
/-- a or b of values -/
theorem se_orv (ha : PE X a (tE P rc A X.K W ca)) (hb : PE X (.BoolOp .Or (b :: rest) pos) (tE P rc A X.K W cb)) : PE X (.BoolOp .Or (a :: b :: rest) pos) (tE P rc A X.K W (.orv ca cb)) := by
  refine (pe_orT ha hb).imp fun σ H Q ⟨Φ, ρ, S, M, x, h⟩ => ⟨Φ, ρ, S, M, x, ?_⟩
  simp only [evE] at h
  refine Post.bind h fun r1 S1 v H1 M1 s1 x1 rx h1 => ?_
  cases e : truR r1 with
  | none =>
    rw [e] at h1
    exact h1.elim
  | some k =>
    rw [e] at h1
    refine ⟨k, tru_of e rx, ?_⟩
    cases k with
    | true => exact h1 v H1 M1 s1 x1 rx
    | false => exact ⟨Φ, ρ, S1, M1, x1, Post.rbR h1 s1⟩
theorem sw_and (ha : PT X a (tT P rc A X.K W ca)) (hb : PW X (.BoolOp .And (b :: rest) pos) (tT P rc A X.K W cb)) : PW X (.BoolOp .And (a :: b :: rest) pos) (tT P rc A X.K W (.and ca cb)) := by
  refine (pw_and ha hb).imp fun σ H Q ⟨Φ, ρ, S, M, x, h⟩ => ⟨Φ, ρ, S, M, x, ?_⟩
  simp only [evE] at h
  rw [boolO_bind] at h
  refine Post.bind h fun k S1 v H1 M1 s1 x1 rx h1 => ?_
  cases rx
  cases k with
  | true => exact ⟨Φ, ρ, S1, M1, x1, Post.rbB h1 s1⟩
  | false => exact h1 _ H1 M1 s1 x1 rfl
theorem sw_or (ha : PT X a (tT P rc A X.K W ca)) (hb : PW X (.BoolOp .Or (b :: rest) pos) (tT P rc A X.K W cb)) : PW X (.BoolOp .Or (a :: b :: rest) pos) (tT P rc A X.K W (.or ca cb)) := by
  refine (pw_or ha hb).imp fun σ H Q ⟨Φ, ρ, S, M, x, h⟩ => ⟨Φ, ρ, S, M, x, ?_⟩
  simp only [evE] at h
  rw [boolO_bind] at h
  refine Post.bind h fun k S1 v H1 M1 s1 x1 rx h1 => ?_
  cases rx
  cases k with
  | false => exact ⟨Φ, ρ, S1, M1, x1, Post.rbB h1 s1⟩
  | true => exact h1 _ H1 M1 s1 x1 rfl
theorem se_ite (hc : PT X c (tT P rc A X.K W cc)) (ha : PE X a (tE P rc A X.K W ca)) (hb : PE X b (tE P rc A X.K W cb)) : PE X (.IfExp c a b pos) (tE P rc A X.K W (.ite cc ca cb)) := by
  refine (pe_ifExp hc ha hb).imp fun σ H Q ⟨Φ, ρ, S, M, x, h⟩ => ⟨Φ, ρ, S, M, x, ?_⟩
  simp only [evE] at h
  refine Post.bind h fun k S1 v H1 M1 s1 x1 rx h1 => ?_
  cases rx
  cases k with
  | true => exact ⟨Φ, ρ, S1, M1, x1, Post.rbR h1 s1⟩
  | false => exact ⟨Φ, ρ, S1, M1, x1, Post.rbR h1 s1⟩
theorem se_cmp {op : Co} (hw : A.wd = X.w) (hu : X.A.units + 65 < cLine) (ha : PE X a (tE P rc A X.K W ca)) (hb : PE X b (tE P rc A X.K W cb)) (hm : behindInMarks op.op b = false) : PE X (.Compare a [op.op] [b] pos) (tE P rc A X.K W (.cmp op ca cb)) := by
  refine (pe_cmpR (op_cmp hu op) ha hb hm).imp fun σ H Q ⟨Φ, ρ, S, M, x, h⟩ => ⟨Φ, ρ, S, M, x, ?_⟩
  refine Post.bind h fun r1 S1 v H1 M1 s1 x1 rx h1 => ⟨Φ, ρ, S1, M1, x1, ?_⟩
  refine Post.bind (Post.rbR h1 s1) fun r2 S2 u H2 M2 s2 x2 ry h2 => ?_
  obtain ⟨r, e, q⟩ := Post.of (Post.rbR h2 s2)
  obtain ⟨k, e3, rfl⟩ := mapO e
  exact cmpR_ok x2 e3 (rx.mono s2) ry (q _ H2 M2 .refl x2 (.bl _)) hw
theorem st_cmp {op : Co} (hw : A.wd = X.w) (hu : X.A.units + 65 < cLine) (ha : PE X a (tE P rc A X.K W ca)) (hb : PE X b (tE P rc A X.K W cb)) (hm : behindInMarks op.op b = false) : PT X (.Compare a [op.op] [b] pos) (tT P rc A X.K W (.cmp op ca cb)) := by
  refine (pt_cmpR (op_cmp hu op) ha hb hm).imp fun σ H Q ⟨Φ, ρ, S, M, x, h⟩ => ⟨Φ, ρ, S, M, x, ?_⟩
  have h := h.bool
  refine Post.bind h fun r1 S1 v H1 M1 s1 x1 rx h1 => ⟨Φ, ρ, S1, M1, x1, ?_⟩
  refine Post.bind (Post.rbR h1 s1) fun r2 S2 u H2 M2 s2 x2 ry h2 => ?_
  obtain ⟨r, e, q⟩ := Post.of (Post.rbR h2 s2)
  obtain ⟨k, e3, rfl⟩ := mapO e
  exact cmpR_ok (Q := fun x H1 => ∃ k, x = .bl k ∧ Q k H1) x2 e3 (rx.mono s2) ry (q _ H2 M2 .refl x2 (.bl _)) hw
theorem chain_ok {op op' : Co} {σ : St} {H : Hp} {Q : VK} {ρ : Loc} {S : Sto} {M : List Addr} {Φ : List Addr} (hw : A.wd = X.w) (x : At (A.w Φ) X.K σ H ρ S M) (h : Post (A.w Φ) X.K W (RRl (A.w Φ) X.K) σ ρ M H (evE P rc (.chain op op' ca cb cc) ρ S) Q) :
    tChain (rC X.K X.w op) (rC X.K X.w op') (tE P rc A X.K W ca) (tE P rc A X.K W cb) (tE P rc A X.K W cc) σ H Q := by
  refine ⟨Φ, ρ, S, M, x, ?_⟩
  refine Post.bind h fun r1 S1 v H1 M1 s1 x1 rx h1 => ⟨Φ, ρ, S1, M1, x1, ?_⟩
  refine Post.bind (Post.rbR h1 s1) fun r2 S2 u H2 M2 s2 x2 ry h2 => ?_
  have h2 := Post.rbR h2 s2
  cases e : cmpR op S2 r1 r2 with
  | none => rw [e] at h2; exact h2.elim
  | some k =>
    rw [e] at h2
    cases k with
    | false => exact cmpR_ok (Q := fun z H3 => ∃ k, z = V.bl k ∧ _) x2 e (rx.mono s2) ry ⟨false, rfl, h2 _ H2 M2 .refl x2 (.bl _)⟩ hw
    | true =>
      refine cmpR_ok (Q := fun z H3 => ∃ k, z = V.bl k ∧ _) x2 e (rx.mono s2) ry ⟨true, rfl, Φ, ρ, S2, M2, x2, ?_⟩ hw
      refine Post.bind h2 fun r3 S3 w H3 M3 s3 x3 rz h3 => ?_
      obtain ⟨r, e, q⟩ := Post.of (Post.rbR h3 s3)
      obtain ⟨k, e3, rfl⟩ := mapO e
      exact cmpR_ok x3 e3 (ry.mono s3) rz (q _ H3 M3 .refl x3 (.bl _)) hw
theorem se_chain {op op' : Co} (hw : A.wd = X.w) (hu : X.A.units + 65 < cLine) (ha : PE X a (tE P rc A X.K W ca)) (hb : PE X b (tE P rc A X.K W cb)) (hc : PE X c (tE P rc A X.K W cc)) (hm : lastMarks [op.op, op'.op] [b, c] = false) : PE X (.Compare a [op.op, op'.op] [b, c] pos) (tE P rc A X.K W (.chain op op' ca cb cc)) :=
  (pe_chain (op_cmp hu op) (op_cmp hu op') ha hb hc hm).imp fun σ H Q ⟨Φ, ρ, S, M, x, h⟩ => chain_ok hw x h
theorem st_chain {op op' : Co} (hw : A.wd = X.w) (hu : X.A.units + 65 < cLine) (ha : PE X a (tE P rc A X.K W ca)) (hb : PE X b (tE P rc A X.K W cb)) (hc : PE X c (tE P rc A X.K W cc)) (hm : lastMarks [op.op, op'.op] [b, c] = false) : PT X (.Compare a [op.op, op'.op] [b, c] pos) (tT P rc A X.K W (.chain op op' ca cb cc)) :=
  (pt_chain (op_cmp hu op) (op_cmp hu op') ha hb hc hm).imp fun σ H Q ⟨Φ, ρ, S, M, x, h⟩ => chain_ok hw x h.bool
end
end Pl
/-! The readings of displays, of subscripts, of calls of built-in functions. -/
namespace Pl
open PySem PySem.Spec
open PyProof.Rows hiding St
open L2
section
variable {P : Pg} {rc : Nat → List D → Sto → O R} {A : Adr} {W : WX} {X : Cx} {pos : Pos} {a b c e : Expr} {ca cb cc : E} {es : List Expr} {ces : Es}
theorem Post.bind2 {K : PySem.W.Frag} {α β γ δ : Type} {σ : St} {ρ : Loc} {M M1 : List Addr} {H H1 : Hp} {Rl : Rel α β} {Rl2 : Rel γ δ} {o : O α} {f : α → Sto → O γ} {Q : δ → Hp → Prop} {Q1 : β → Hp → Prop} (s : Stp K M H M1 H1) (h : Post A K W Rl2 σ ρ M H (o.bind f) Q)
    (k : ∀ a S1 v H2 M2, Stp K M1 H1 M2 H2 → At A K σ H2 ρ S1 M2 → Rl M2 H2 H1 a v → Post A K W Rl2 σ ρ M H (f a S1) Q → Q1 v H2) : Post A K W Rl σ ρ M1 H1 o Q1 := by
  cases o with
  | ok a S' => exact fun v H' M' s' x r => k a S' v H' M' s' x r h
  | ex k' S' => exact fun H' M' s' x => h H' M' (s.trans s') x
  | no => exact h
def RDd (A : Adr) (K : PySem.W.Frag) : Rel D V := fun M H _ r v => RD A K M H r v
/-- a result as a value -/
theorem Post.valV {K : PySem.W.Frag} {σ : St} {ρ : Loc} {M : List Addr} {H : Hp} {o : O R} {Q : V → Hp → Prop} (h : Post A K W (RDd A K) σ ρ M H (valO o) Q) : Post A K W (RRl A K) σ ρ M H o Q := by
  cases o with
  | no => exact h
  | ex k S' => exact h
  | ok r S' =>
    intro v H' M' s' x' rr
    have h : Post A K W (RDd A K) σ ρ M H (O.of S' (toD r)) Q := h
    obtain ⟨d, e, q⟩ := Post.of h
    exact q v H' M' s' x' (toD_ok e rr)
theorem sa_nil : PA X [] (tEs P rc A X.K W .nil) := pa_nil.imp fun σ H Q ⟨Φ, ρ, S, M, x, h⟩ => h _ H M .refl x .nil
theorem sa_cons (ha : PE X e (tE P rc A X.K W ca)) (hr : PA X es (tEs P rc A X.K W ces)) (hs : starEach (e :: es) X.env = (false, eval e X.env) :: starEach es X.env) : PA X (e :: es) (tEs P rc A X.K W (.cons ca ces)) := by
  refine (pa_cons ha hr hs).imp fun σ H Q ⟨Φ, ρ, S, M, x, h⟩ => ⟨Φ, ρ, S, M, x, ?_⟩
  refine (Post.bind (Rl := RDd (A.w Φ) X.K) h fun d S1 v H1 M1 s1 x1 rd h1 => ?_).valV
  refine ⟨Φ, ρ, _, M1, x1, ?_⟩
  refine Post.bind (Post.rbD h1 s1) fun ds S3 vs H3 M3 s3 x3 r3 h3 => ?_
  exact h3 (v :: vs) H3 M3 s3 x3 (.cons (RD.mono s3 rd) r3)
theorem sr_nil : PA X [] (tRs P rc A X.K W .nil) := pa_nil.imp fun σ H Q ⟨Φ, ρ, S, M, x, h⟩ => h _ H M .refl x .nil
theorem sr_cons (ha : PE X e (tE P rc A X.K W ca)) (hr : PA X es (tRs P rc A X.K W ces)) (hs : starEach (e :: es) X.env = (false, eval e X.env) :: starEach es X.env) : PA X (e :: es) (tRs P rc A X.K W (.cons ca ces)) := by
  refine (pa_cons ha hr hs).imp fun σ H Q ⟨Φ, ρ, S, M, x, h⟩ => ⟨Φ, ρ, S, M, x, ?_⟩
  refine Post.bind h fun r1 S1 v H1 M1 s1 x1 rx h1 => ⟨Φ, ρ, S1, M1, x1, ?_⟩
  refine Post.bind2 s1 h1 fun ds S3 vs H3 M3 s3 x3 r3 h3 => ?_
  exact h3 (v :: vs) H3 M3 (s1.trans s3) x3 (.cons (rx.mono s3) (r3.base s1))
theorem se_tup {x1} (h : PA X es (tEs P rc A X.K W ces)) : PE X (.Tuple es x1 pos) (tE P rc A X.K W (.tup ces)) := by
  refine (pe_tup h).imp fun σ H Q ⟨Φ, ρ, S, M, x, h⟩ => ⟨Φ, ρ, S, M, x, ?_⟩
  refine Post.bind h fun ds S1 vs H1 M1 s1 x1 r1 h1 => ?_
  have h1 := Post.rbR h1 s1
  by_cases hl : ds.length ≤ sizeLine
  · rw [if_pos hl] at h1
    exact ⟨by rw [← RDs.length r1]; exact hl, fun p n => new_t x1 r1 h1 n⟩
  · rw [if_neg hl] at h1
    exact h1.elim
theorem se_lst (h : PA X es (tEs P rc A X.K W ces)) : PE X (.List es pos) (tE P rc A X.K W (.lst ces)) := by
  refine (pe_lst h).imp fun σ H Q ⟨Φ, ρ, S, M, x, h⟩ => ⟨Φ, ρ, S, M, x, ?_⟩
  refine Post.bind h fun ds S1 vs H1 M1 s1 x1 r1 h1 => ?_
  have h1 := Post.rbR h1 s1
  by_cases hl : ds.length ≤ sizeLine
  · rw [if_pos hl] at h1
    exact ⟨by rw [← RDs.length r1]; exact hl, fun p n => new_l x1 r1 h1 n⟩
  · rw [if_neg hl] at h1
    exact h1.elim
/-! ### a[i] -/
theorem RDs.atI {K : PySem.W.Frag} {M : List Addr} {H : Hp} {ds : List D} {vs : List V} {i : Int} {d : D} (r : RDs A K M H ds vs) (e : L2.atI ds i = some d) : ∃ v, L2.atI vs i = some v ∧ RD A K M H d v := by
  unfold L2.atI at e ⊢
  rw [r.length] at e
  cases q : ixN vs.length i with
  | none => rw [q] at e; cases e
  | some j =>
    rw [q] at e
    exact r.get e
def rIxG : R2 := fun x y H Q => ∃ a v, x = .ref a ∧ DGet H a y (some v) ∧ Q v H
theorem ix_dict (hu : X.A.units + 1 < cLine) : IxR X rIxG := by
  intro value slice pins s σ H x y v u Q I rx ry h hs
  obtain ⟨a, z, rfl, g, q⟩ := h
  obtain rfl : v = Value.ref a := rx
  exact tail_any (dict_typeIs I g) slot_dict_getitem.lookup (d_getItem hu I g ry fun w' s3 I3 rw' => ⟨z, H, I3, rw', q⟩) hs
def rIxN (K : PySem.W.Frag) (w : World) : R2 := fun x y H Q => rIx K x y H Q ∨ rIxG x y H Q ∨ rIxD K w x y H Q
theorem ix_any (hu : X.A.units + 1 < cLine) : IxR X (rIxN X.K X.w) := ix_seq.or ((ix_dict hu).or ix_kdict)
theorem ixR_ok {K : PySem.W.Frag} {σ : St} {ρ : Loc} {M : List Addr} {H Hx Hy : Hp} {S : Sto} {x y r : R} {v u : V} {wd : World} {Q : V → Hp → Prop} (a : At A K σ H ρ S M) (e : ixR S x y = some r) (rx : RR A K M H Hx x v) (ry : RR A K M H Hy y u)
    (q : ∀ w, RR A K M H H r w → Q w H) (hw : A.wd = wd) : rIxN K wd v u H Q := by
  subst hw
  unfold ixR at e
  split at e
  · split at e
    · split at e
      · next hl =>
        obtain ⟨c, e3, rfl⟩ := mapO e
        cases rx
        cases ry
        exact .inl (.inr (.inr ⟨_, _, _, rfl, rfl, hl, e3, q _ (.str _)⟩))
      · cases e
    · cases e
  · split at e
    · next ds e1 =>
      split at e
      · cases ry
        obtain ⟨d, e3, rfl⟩ := mapO e
        obtain ⟨p, vs, rfl, hq, r1⟩ := sq_ok a.hr rx e1
        obtain ⟨w, e2, r2⟩ := RDs.atI r1 e3
        rcases hq with hq | hq
        · exact .inl (.inl ⟨_, _, _, _, rfl, rfl, hq, e2, q _ r2⟩)
        · exact .inl (.inr (.inl ⟨_, _, _, _, rfl, rfl, hq, e2, q _ r2⟩))
      · cases e
    · split at e
      · next d e1 =>
        cases e
        obtain ⟨p, w, rfl, g, h⟩ := dg_ok a.hr e1 rx ry
        rcases h with ⟨h, _⟩ | ⟨d', z, h1, rfl, rd⟩
        · cases h
        · cases h1
          rcases g with g | ⟨es, n, z', r, kd, rfl, hn, ro⟩
          · exact .inr (.inl ⟨p, z, rfl, g, q _ rd⟩)
          · cases r with
            | none => exact ro.elim
            | some u1 => exact .inr (.inr ⟨p, z', z, rfl, rfl, ⟨es, n, u1, kd.at_, kd.lit, hn, ro⟩, q _ rd⟩)
      · cases e
theorem se_ix (hw : A.wd = X.w) (hu : X.A.units + 65 < cLine) (ha : PE X a (tE P rc A X.K W ca)) (hb : PE X b (tE P rc A X.K W cb)) (hs : PlainIx b) : PE X (.Subscript a b pos) (tE P rc A X.K W (.ix ca cb)) := by
  refine (pe_ix (ix_any (by omega)) ha hb hs).imp fun σ H Q ⟨Φ, ρ, S, M, x, h⟩ => ⟨Φ, ρ, S, M, x, ?_⟩
  refine Post.bind h fun r1 S1 v H1 M1 s1 x1 rx h1 => ⟨Φ, ρ, S1, M1, x1, ?_⟩
  refine Post.bind (Post.rbR h1 s1) fun r2 S2 u H2 M2 s2 x2 ry h2 => ?_
  obtain ⟨r, e, q⟩ := Post.of (Post.rbR h2 s2)
  exact ixR_ok x2 e (rx.mono s2) ry (fun w h => q w H2 M2 .refl x2 h) hw
/-! ### built-in functions -/
def Bi.nm : Bi → Str
  | .len => "len" | .sorted => "sorted" | .list => "list" | .tuple => "tuple" | .min2 => "min" | .max2 => "max"  | .sum => "sum" | .all => "all" | .any => "any" | .int => "int" | .str => "str" | .abs => "abs" | .dict => "dict"
def Bi.val : Bi → Value
  | .len => .builtin "len" | .sorted => .builtin "sorted" | .list => .type "list" | .tuple => .type "tuple" | .min2 => .builtin "min" | .max2 => .builtin "max"  | .sum => .builtin "sum" | .all => .builtin "all" | .any => .builtin "any" | .int => .type "int" | .str => .type "str" | .abs => .builtin "abs" | .dict => .type "dict"
def rBi (K : PySem.W.Frag) (b : Bi) : List V → Hp → VK → Prop := fun xs H Q => match b with
  | .len => (∃ p ys, xs = [.ref p] ∧ (SqL K H p ys ∨ SqT K H p ys) ∧ Q (.int ys.length) H) ∨ (∃ z : Str, xs = [.str z] ∧ z.length ≤ sizeLine ∧ Q (.int z.length) H) ∨ ∃ (a : Addr) (kvs : List (Key × V)), xs = [V.ref a] ∧ Rd H a (.dK kvs) ∧ Q (.int kvs.length) H
  | .sorted => rSortedI K xs H Q ∨ rSortedPO K xs H Q ∨ rSortedS K xs H Q ∨ (∃ (a : Addr) (kvs : List (Key × V)) (ks : List Int), xs = [.ref a] ∧ Rd H a (.dK kvs) ∧ kvs.map (·.1) = ks.map Sum.inl ∧ ks.length ≤ sizeLine ∧ ∀ (ys : List Int) (p : Addr), ys.Perm ks → ys.Pairwise (· ≤ ·) → H p = none → Q (.ref p) (upd H p (.lst (ys.map V.int)))) ∨
    ∃ (a : Addr) (kvs : List (List Key × V)) (ts : List (Int × Int × Int)), xs = [.ref a] ∧ Rd H a (.dT kvs) ∧ kvs.map (·.1) = ts.map k3 ∧
      ∀ (us : List (Int × Int × Int)) (bs : List Addr) (p : Addr), us.Perm ts → us.Pairwise (fun p q => Pl.le3 p q = true) → Paired (fun t b => H b = some (.tup ((k3 t).map kV))) us bs → H p = none → Q (.ref p) (upd H p (.lst (bs.map V.ref)))
  | .list => ∃ p ys, xs = [.ref p] ∧ (SqL K H p ys ∨ SqT K H p ys) ∧ ∀ l, H l = none → Q (.ref l) (upd H l (.lst ys))
  | .tuple => ∃ p ys, xs = [.ref p] ∧ ((SqL K H p ys ∧ ∀ l, H l = none → Q (.ref l) (upd H l (.tup ys))) ∨ (SqT K H p ys ∧ Q (.ref p) H))
  | .min2 => ∃ i j : Int, xs = [.int i, .int j] ∧ Q (.int (if j < i then j else i)) H
  | .max2 => ∃ i j : Int, xs = [.int i, .int j] ∧ Q (.int (if j > i then j else i)) H
  | .sum => rSum K xs H Q
  | .all => rAll K xs H Q
  | .any => rAny K xs H Q
  | .int => (∃ i, xs = [.int i] ∧ Q (.int i) H) ∨ (∃ k, xs = [.bl k] ∧ Q (.int (if k then 1 else 0)) H) ∨ ∃ a n, xs = [.str a] ∧ PySem.intText? a = some n ∧ a.length ≤ 640 ∧ Q (.int n) H
  | .str => (∃ i, xs = [.int i] ∧ i.natAbs.log2 < 1920 ∧ Q (.str (toString i)) H) ∨ ∃ a, xs = [.str a] ∧ Q (.str a) H
  | .dict => (∃ (a : Addr) (kvs : List (Key × V)), xs = [.ref a] ∧ Rd H a (.dK kvs) ∧ ∀ p, H p = none → Q (.ref p) (upd H p (.dK kvs))) ∨
    (∃ (a : Addr) (ps : List Addr) (kvs : List (Key × V)), xs = [.ref a] ∧ SqL K H a (ps.map V.ref) ∧ Paired (fun p kv => SqT K H p [kV kv.1, kv.2]) ps kvs ∧ ∀ p, H p = none → Q (.ref p) (upd H p (.dK (mergeK [] kvs)))) ∨ rDictT xs H Q
  | .abs => ∃ i, xs = [.int i] ∧ Q (.int (if i < 0 then -i else i)) H
theorem call_lenDr : CallR X (.builtin "len") (fun xs H Q => ∃ (a : Addr) (kvs : List (Key × V)), xs = [V.ref a] ∧ Rd H a (.dK kvs) ∧ Q (.int kvs.length) H) := by
  intro pins s σ H xs us Q I r h
  obtain ⟨a, kvs, rfl, ha, q⟩ := h
  obtain ⟨u, rfl, ru⟩ := vals1 r
  cases ru
  exact d_len I ha fun t s' I' => ⟨.int kvs.length, H, I', ⟨t, rfl⟩, q⟩
theorem cr_bi (hc : X.calm = true) (hu : X.A.units + 65 < cLine) (b : Bi) : CallR X b.val (rBi X.K b) := by
  intro pins s σ H xs us Q I r h
  cases b with
  | len =>
    rcases h with h | h | h
    · exact call_len_seq pins s σ H xs us Q I r h
    · exact call_len_str pins s σ H xs us Q I r h
    · exact call_lenDr pins s σ H xs us Q I r h
  | sorted =>
    rcases h with h | h
    · exact cr_sortedI pins s σ H xs us Q I r h
    rcases h with h | h
    · exact cr_sortedPO pins s σ H xs us Q I r h
    rcases h with h | h
    · exact cr_sortedS pins s σ H xs us Q I r h
    rcases h with h | h
    · exact call_sortedW hc pins s σ H xs us Q I r h
    · exact call_sortedDT hc pins s σ H xs us Q I r h
  | str =>
    rcases h with h | h
    · exact call_str_int pins s σ H xs us Q I r h
    · exact SkE.call_str_str pins s σ H xs us Q I r h
  | dict =>
    rcases h with h | h | h
    · exact call_dictD pins s σ H xs us Q I r h
    · exact call_dictP hc pins s σ H xs us Q I r h
    · exact call_dictT (by show X.A.units + 1 + 1 < cLine; omega) pins s σ H xs us Q I r h
  | list => exact call_list_of pins s σ H xs us Q I r h
  | tuple => exact call_tuple_of pins s σ H xs us Q I r h
  | min2 => exact call_min2 hc pins s σ H xs us Q I r h
  | max2 => exact call_max2 hc pins s σ H xs us Q I r h
  | sum => exact cr_sum hc pins s σ H xs us Q I r h
  | all => exact cr_all hc pins s σ H xs us Q I r h
  | any => exact cr_any hc pins s σ H xs us Q I r h
  | int =>
    rcases h with h | h | h
    · exact call_int1 pins s σ H xs us Q I r (.inl h)
    · exact call_int1 pins s σ H xs us Q I r (.inr h)
    · exact call_int_str pins s σ H xs us Q I r h
  | abs => exact call_abs pins s σ H xs us Q I r h
theorem se_callB {b : Bi} {t : TA} {x : Str} {p : Pos} (hc : X.calm = true) (hu : X.A.units + 65 < cLine) (hx : x = b.nm) (hg : Gl X x) (hm : X.mg x = none) (ha : PA X (e :: es) t)
    (he : starEach (e :: es) X.env = (false, eval e X.env) :: starEach es X.env) (hpl : (backTo pos (starEach es X.env)).any (·.1) = false) : PE X (.Call (.Name x p) (e :: es) [] pos) (tCB (rBi X.K b) t) := by
  subst hx
  have q := cr_bi hc hu b
  cases b <;> first
    | exact pe_callB q hg hm (by decide +kernel) ha (by decide) (by decide) he hpl
    | exact pe_callTy q hg hm (by decide +kernel) ha (by decide) (by decide) he hpl
theorem intsD_ok {K : PySem.W.Frag} {M : List Addr} {H : Hp} : ∀ {ds : List D} {vs : List V} {is : List Int}, intsD ds = some is → RDs A K M H ds vs → vs = is.map V.int
  | [], _, _, e, r => by
    cases e
    cases r
    rfl
  | d :: ds, _, is, e, r => by
    cases r with
    | cons h r =>
      cases d with
      | int i =>
        obtain ⟨js, e3, rfl⟩ := mapO e
        cases h
        rw [intsD_ok e3 r]
        rfl
      | _ => cases e
theorem boolsD_ok {K : PySem.W.Frag} {M : List Addr} {H : Hp} : ∀ {ds : List D} {vs : List V} {is : List Bool}, boolsD ds = some is → RDs A K M H ds vs → vs = is.map V.bl
  | [], _, _, e, r => by
    cases e
    cases r
    rfl
  | d :: ds, _, is, e, r => by
    cases r with
    | cons h r =>
      cases d with
      | bl i =>
        obtain ⟨js, e3, rfl⟩ := mapO e
        cases h
        rw [boolsD_ok e3 r]
        rfl
      | _ => cases e
theorem ints_rd {K : PySem.W.Frag} {M : List Addr} {H : Hp} : ∀ is : List Int, RDs A K M H (is.map D.int) (is.map V.int)
  | [] => .nil
  | i :: is => .cons (.int i) (ints_rd is)
theorem sortI_perm (is : List Int) : (sortI is).Perm is := List.mergeSort_perm _ _
theorem sortI_sorted (is : List Int) : (sortI is).Pairwise (· ≤ ·) := by
  have h := List.pairwise_mergeSort (le := fun a b : Int => decide (a ≤ b)) (fun a b c h1 h2 => by
    simp only [decide_eq_true_eq] at *
    omega) (fun a b => by
    simp only [Bool.or_eq_true, decide_eq_true_eq]
    omega) is
  exact h.imp fun h => by simpa using h
theorem sortI_eq {is js : List Int} (p : js.Perm is) (s : js.Pairwise (· ≤ ·)) : js = sortI is :=
  List.Perm.eq_of_pairwise (fun a b _ _ h1 h2 => Int.le_antisymm h1 h2) s (sortI_sorted is) (p.trans (sortI_perm is).symm)
theorem strsD_ok {K : PySem.W.Frag} {M : List Addr} {H : Hp} : ∀ {ds : List D} {vs : List V} {is : List Str}, strsD ds = some is → RDs A K M H ds vs → vs = is.map V.str
  | [], _, _, e, r => by
    cases e
    cases r
    rfl
  | d :: ds, _, is, e, r => by
    cases r with
    | cons h r =>
      cases d with
      | str i =>
        obtain ⟨js, e3, rfl⟩ := mapO e
        cases h
        rw [strsD_ok e3 r]
        rfl
      | _ => cases e
theorem strs_rd {K : PySem.W.Frag} {M : List Addr} {H : Hp} : ∀ is : List Str, RDs A K M H (is.map D.str) (is.map V.str)
  | [] => .nil
  | i :: is => .cons (.str i) (strs_rd is)
theorem ltCps_cons {x y : Nat} {a b : List Nat} : ltCps (x :: a) (y :: b) = true ↔ x < y ∨ (x = y ∧ ltCps a b = true) := by
  simp [ltCps]
theorem ltCps_trans : ∀ {a b c : List Nat}, ltCps a b = true → ltCps b c = true → ltCps a c = true
  | [], [], _, h, _ => by cases h
  | [], _ :: _, [], _, h => by cases h
  | [], _ :: _, _ :: _, _, _ => rfl
  | _ :: _, [], _, h, _ => by cases h
  | _ :: _, _ :: _, [], _, h => by cases h
  | x :: a, y :: b, z :: c, h1, h2 => by
    rw [ltCps_cons] at *
    rcases h1 with h1 | ⟨h1, g1⟩
    · exact .inl (by omega)
    · rcases h2 with h2 | ⟨h2, g2⟩
      · exact .inl (by omega)
      · exact .inr ⟨by omega, ltCps_trans g1 g2⟩
theorem ltCps_eq : ∀ {a b : List Nat}, ltCps a b = false → ltCps b a = false → a = b
  | [], [], _, _ => rfl
  | [], _ :: _, h, _ => by cases h
  | _ :: _, [], _, h => by cases h
  | x :: a, y :: b, h1, h2 => by
    have h1 := (Bool.eq_false_iff.mp h1) ∘ ltCps_cons.mpr
    have h2 := (Bool.eq_false_iff.mp h2) ∘ ltCps_cons.mpr
    have hx : x = y := by
      rcases Nat.lt_trichotomy x y with h | h | h
      · exact absurd (.inl h) h1
      · exact h
      · exact absurd (.inl h) h2
    subst hx
    rw [ltCps_eq (a := a) (b := b) (Bool.eq_false_iff.mpr fun h => h1 (.inr ⟨rfl, h⟩)) (Bool.eq_false_iff.mpr fun h => h2 (.inr ⟨rfl, h⟩))]
theorem ltCps_asym {a b : List Nat} (h : ltCps a b = true) : ltCps b a = false := by
  cases e : ltCps b a with
  | false => rfl
  | true =>
    have irr : ∀ a : List Nat, ltCps a a = false := fun a => by
      induction a with
      | nil => rfl
      | cons x a ih =>
        rw [Bool.eq_false_iff]
        intro h
        rcases ltCps_cons.mp h with h | ⟨_, h⟩
        · exact absurd h (Nat.lt_irrefl _)
        · rw [ih] at h
          cases h
    have := ltCps_trans h e
    rw [irr] at this
    cases this
theorem leS_trans {a b c : Str} (h1 : leS a b = true) (h2 : leS b c = true) : leS a c = true := by
  unfold leS at *
  rw [Bool.not_eq_true'] at *
  cases e : ltCps c.cps.toList a.cps.toList with
  | false => rfl
  | true =>
    cases e2 : ltCps a.cps.toList b.cps.toList with
    | true =>
      rw [ltCps_trans e e2] at h2
      cases h2
    | false =>
      rw [ltCps_eq e2 h1] at e
      rw [e] at h2
      cases h2
theorem leS_total (a b : Str) : (leS a b || leS b a) = true := by
  unfold leS
  cases e : ltCps b.cps.toList a.cps.toList with
  | false => rfl
  | true => rw [ltCps_asym e]; rfl
theorem leS_anti {a b : Str} (h1 : leS a b = true) (h2 : leS b a = true) : a = b := by
  unfold leS at *
  rw [Bool.not_eq_true'] at *
  have := ltCps_eq h2 h1
  cases a
  cases b
  simp at this
  rw [this]
theorem rising_pw : ∀ {xs : List Str} {p : Str}, risingS p xs = true → (p :: xs).Pairwise (fun a b => leS a b = true)
  | [], p, _ => List.pairwise_singleton _ _
  | x :: xs, p, h => by
    have h : (!ltCps x.cps.toList p.cps.toList && risingS x xs) = true := h
    rw [Bool.and_eq_true] at h
    have ih := rising_pw h.2
    refine List.pairwise_cons.mpr ⟨fun y hy => ?_, ih⟩
    rcases List.mem_cons.mp hy with rfl | hy
    · exact h.1
    · exact leS_trans h.1 ((List.pairwise_cons.mp ih).1 y hy)
theorem sortedS_pw {xs : List Str} (h : sortedS xs = true) : xs.Pairwise (fun a b => leS a b = true) := by
  cases xs with
  | nil => exact List.Pairwise.nil
  | cons x xs => exact rising_pw h
theorem sortS_eq {xs ys : List Str} (p : ys.Perm xs) (s : sortedS ys = true) : ys = sortS xs :=
  List.Perm.eq_of_pairwise (fun a b _ _ h1 h2 => leS_anti h1 h2) (sortedS_pw s) (show (xs.mergeSort leS).Pairwise (fun a b => leS a b = true) from List.pairwise_mergeSort (le := leS) (fun a b c h1 h2 => leS_trans h1 h2) (fun a b => leS_total a b) xs) (p.trans (List.mergeSort_perm _ _).symm)
theorem sortP_perm (ps : List (Int × Int)) : (sortP ps).Perm ps := List.mergeSort_perm _ _
theorem sortP_sorted (ps : List (Int × Int)) : (sortP ps).Pairwise (fun p q => lexP p q = true) :=
  List.pairwise_mergeSort (le := lexP) (fun a b c h1 h2 => by
    simp only [lexP, decide_eq_true_eq] at *
    omega) (fun a b => by
    simp only [lexP, Bool.or_eq_true, decide_eq_true_eq]
    omega) ps
theorem sortP_eq {ps qs : List (Int × Int)} (p : qs.Perm ps) (s : qs.Pairwise (fun p q => lexP p q = true)) : qs = sortP ps :=
  List.Perm.eq_of_pairwise (fun a b _ _ h1 h2 => by
    simp only [lexP, decide_eq_true_eq] at h1 h2
    rcases a with ⟨a1, a2⟩
    rcases b with ⟨b1, b2⟩
    simp only [Prod.mk.injEq]
    simp only at h1 h2
    omega) s (sortP_sorted ps) (p.trans (sortP_perm ps).symm)
/-- the numbers of a pair that stands in the heap -/
noncomputable def prOf (H : Hp) : V → Int × Int
  | .ref t => match H t with
    | some (.tup [.int i, .int j]) => (i, j)
    | _ => (0, 0)
  | _ => (0, 0)
theorem prsI_ok {K : PySem.W.Frag} {M : List Addr} {H : Hp} : ∀ {ds : List D} {vs : List V} {ps : List (Int × Int)}, prsI ds = some ps → RDs A K M H ds vs → vs.map (prOf H) = ps ∧ ∀ x ∈ vs, ∃ t, x = V.ref t ∧ H t = some (.tup [.int (prOf H x).1, .int (prOf H x).2])
  | [], _, _, e, .nil => by
    cases e
    exact ⟨rfl, fun x h => by simp at h⟩
  | d :: ds, _, _, e, .cons h r => by
    unfold prsI at e
    split at e
    · next e0 => cases e0
    · next i j ds' e0 =>
      cases e0
      obtain ⟨ps', e3, rfl⟩ := mapO e
      obtain ⟨q1, q2⟩ := prsI_ok e3 r
      cases h with
      | @tup a _ _ hp rr =>
        cases rr with
        | cons h1 rr =>
          cases rr with
          | cons h2 rr =>
            cases rr
            cases h1
            cases h2
            have e4 : prOf H (.ref a) = (i, j) := by
              simp only [prOf, hp]
            refine ⟨by rw [List.map_cons, q1, e4], fun x hx => ?_⟩
            rcases List.mem_cons.mp hx with rfl | hx
            · exact ⟨a, rfl, by rw [e4]; exact hp⟩
            · exact q2 x hx
    · cases e
theorem prs_rd {K : PySem.W.Frag} {M : List Addr} {H : Hp} : ∀ {vs : List V}, (∀ x ∈ vs, ∃ t, x = V.ref t ∧ H t = some (.tup [.int (prOf H x).1, .int (prOf H x).2])) → RDs A K M H ((vs.map (prOf H)).map prD) vs
  | [], _ => .nil
  | x :: vs, h => by
    obtain ⟨t, e, ht⟩ := h x List.mem_cons_self
    subst e
    exact .cons (.tup ht (.cons (.int _) (.cons (.int _) .nil))) (prs_rd fun y hy => h y (List.mem_cons_of_mem _ hy))
theorem intsK_ok : ∀ {ks : List Key} {is : List Int}, intsK ks = some is → ks = is.map Sum.inl
  | [], _, e => by cases e; rfl
  | .inl i :: ks, _, e => by
    obtain ⟨js, e3, rfl⟩ := mapO e
    rw [intsK_ok e3]
    rfl
  | .inr _ :: ks, _, e => by cases e
theorem triK_ok {k : List Key} {t : Int × Int × Int} (e : triK k = some t) : k = k3 t := by
  unfold triK at e
  split at e
  · cases e; rfl
  · cases e
theorem trisK_ok : ∀ {ks : List (List Key)} {ts : List (Int × Int × Int)}, trisK ks = some ts → ks = ts.map k3
  | [], _, e => by cases e; rfl
  | k :: ks, _, e => by
    unfold trisK at e
    cases q : triK k with
    | none => rw [q] at e; cases e
    | some t =>
      rw [q] at e
      obtain ⟨js, e3, rfl⟩ := mapO e
      rw [trisK_ok e3, triK_ok q]
      rfl
theorem sort3_eq {ts us : List (Int × Int × Int)} (p : us.Perm ts) (s : us.Pairwise (fun p q => le3 p q = true)) : us = sort3 ts :=
  List.Perm.eq_of_pairwise (fun a b _ _ h1 h2 => by
    simp only [le3, decide_eq_true_eq] at h1 h2
    rcases a with ⟨a1, a2, a3⟩
    rcases b with ⟨b1, b2, b3⟩
    simp only [Prod.mk.injEq]
    simp only at h1 h2
    omega) s (show (ts.mergeSort le3).Pairwise (fun p q => le3 p q = true) from List.pairwise_mergeSort (le := le3) (fun a b c h1 h2 => by
    simp only [le3, decide_eq_true_eq] at *
    omega) (fun a b => by
    simp only [le3, Bool.or_eq_true, decide_eq_true_eq]
    omega) ts) (p.trans (List.mergeSort_perm _ _).symm)
theorem tris_rd {K : PySem.W.Frag} {M : List Addr} {H : Hp} {us : List (Int × Int × Int)} {bs : List Addr} (h : Paired (fun t b => H b = some (.tup ((k3 t).map kV))) us bs) : RDs A K M H (us.map trD) (bs.map V.ref) := by
  induction h with
  | nil => exact .nil
  | cons h1 h2 ih => exact .cons (.tup h1 (.cons (.int _) (.cons (.int _) (.cons (.int _) .nil)))) ih
theorem pairsD_ok {K : PySem.W.Frag} {M : List Addr} {H : Hp} : ∀ {ds : List D} {vs : List V} {kvs : List (Key × D)}, pairsD ds = some kvs → RDs A K M H ds vs →
    ∃ (ps : List Addr) (ws : List (Key × V)), vs = ps.map V.ref ∧ Paired (fun p kv => SqT K H p [kV kv.1, kv.2]) ps ws ∧ RKs A K M H kvs ws
  | [], _, _, e, .nil => by
    cases e
    exact ⟨[], [], rfl, .nil, .nil⟩
  | d :: ds, _, _, e, .cons h r => by
    unfold pairsD at e
    split at e
    · cases ‹_ :: _ = _›
    · next k d' ds' hd =>
      cases hd
      split at e
      · next k' ek =>
        obtain ⟨kvs, e2, rfl⟩ := mapO e
        obtain ⟨ps, ws, rfl, hp, r3⟩ := pairsD_ok e2 r
        cases h with
        | tup ht hr =>
          cases hr with
          | cons h1 hr =>
            cases hr with
            | cons h2 hr =>
              cases hr
              rw [keyD_ok ek h1] at ht
              exact ⟨_ :: ps, (k', _) :: ws, rfl, .cons (.of ht) hp, .cons h2 r3⟩
      · cases e
    · cases e
theorem biR_ok {K : PySem.W.Frag} {σ : St} {ρ : Loc} {M : List Addr} {H Hx : Hp} {S : Sto} {xs : List R} {r : R} {vs : List V} {Q : V → Hp → Prop} {b : Bi} (a : At A K σ H ρ S M) (e : biR b S xs = some r) (rx : RRs A K M H Hx xs vs)
    (q : ∀ w H' M', Stp K M H M' H' → At A K σ H' ρ S M' → RR A K M' H' H r w → Q w H') : rBi K b vs H Q := by
  have done : ∀ {w}, RR A K M H H r w → Q w H := fun h => q _ H M .refl a h
  unfold biR at e
  split at e
  · -- len
    cases rx with
    | cons r1 t1 =>
      cases t1
      split at e
      · split at e
        · next hl =>
          cases e
          cases r1
          exact .inr (.inl ⟨_, rfl, hl, done (.int _)⟩)
        · cases e
      · split at e
        · next ds e1 =>
          cases e
          obtain ⟨p, ys, rfl, hq, r2⟩ := sq_ok a.hr r1 e1
          rw [r2.length] at done
          exact .inl ⟨p, ys, rfl, hq, done (.int _)⟩
        · split at e
          · next kvs e1 =>
            cases e
            obtain ⟨p, ws, rfl, hp, r2⟩ := dk_ok a.hr r1 e1
            rw [show kvs.length = ws.length from by rw [← List.length_map (f := (·.1)), r2.keys, List.length_map]] at done
            exact .inr (.inr ⟨p, ws, rfl, hp, done (.int _)⟩)
          · cases e
  · -- sorted
    cases rx with
    | cons r1 t1 =>
      cases t1
      obtain ⟨ds', e2, rfl⟩ := mapO e
      unfold srtOf at e2
      split at e2
      · next ds e1 =>
        obtain ⟨p, ys, rfl, hq, r2⟩ := ls_ok a.hr r1 e1
        unfold sortD at e2
        split at e2
        · next is e3 =>
          cases e2
          have e4 := intsD_ok e3 r2
          subst e4
          refine .inl ⟨p, is, rfl, hq, fun ns' l pm sr n => ?_⟩
          rw [sortI_eq pm sr]
          exact new_l a (ints_rd _) q n
        · split at e2
          · next ps e3 =>
            cases e2
            obtain ⟨g1, g2⟩ := prsI_ok e3 r2
            refine .inr (.inl ⟨p, ys, prOf H, rfl, hq, g2, fun zs l sr st n => ?_⟩)
            have g3 : ∀ x ∈ zs, ∃ t, x = V.ref t ∧ H t = some (.tup [.int (prOf H x).1, .int (prOf H x).2]) := fun x hx => g2 x (st.perm.mem_iff.mp hx)
            have g4 : zs.map (prOf H) = sortP ps := sortP_eq (by rw [← g1]; exact st.perm.map _) (List.pairwise_map.mpr (sr.imp fun {x y} h => by
              have h := SrtO.lexB_no.mp h
              simp only [lexP, decide_eq_true_eq]
              omega))
            have g5 := prs_rd (A := A) (K := K) (M := M) g3
            rw [g4] at g5
            exact new_l a g5 q n
          · split at e2
            · next xs e3 =>
              split at e2
              · next hl =>
                cases e2
                have e4 := strsD_ok e3 r2
                subst e4
                refine .inr (.inr (.inl ⟨p, xs, rfl, hq, hl, fun ys l pm sr n => ?_⟩))
                rw [sortS_eq pm sr]
                exact new_l a (strs_rd _) q n
              · cases e2
            · cases e2
      · split at e2
        · next kvs e1 =>
          split at e2
          · next is e3 =>
            split at e2
            · next hl =>
              cases e2
              obtain ⟨p, ws, rfl, hp, r2⟩ := dk_ok a.hr r1 e1
              refine .inr (.inr (.inr (.inl ⟨p, ws, is, rfl, hp, ?_, hl, fun ys l pm sr n => ?_⟩)))
              · rw [← r2.keys]
                exact intsK_ok e3
              · rw [sortI_eq pm sr]
                exact new_l a (ints_rd _) q n
            · cases e2
          · cases e2
        · split at e2
          · next kvs e1 =>
            obtain ⟨ts, e3, rfl⟩ := mapO e2
            obtain ⟨p, ws, rfl, hp, r2⟩ := dt_ok a.hr r1 e1
            refine .inr (.inr (.inr (.inr ⟨p, ws, ts, rfl, hp, ?_, fun us bs l pm sr hb n => ?_⟩)))
            · rw [← r2.keys]
              exact trisK_ok e3
            · have g := tris_rd (A := A) (K := K) (M := M) hb
              rw [sort3_eq pm sr] at g
              exact new_l a g q n
          · cases e2
  · -- list
    cases rx with
    | cons r1 t1 =>
      cases t1
      obtain ⟨ds, e1, rfl⟩ := mapO e
      obtain ⟨p, ys, rfl, hq, r2⟩ := sq_ok a.hr r1 e1
      exact ⟨p, ys, rfl, hq, fun l n => new_l a r2 q n⟩
  · -- tuple
    cases rx with
    | cons r1 t1 =>
      cases t1
      split at e
      · cases e
        cases r1 with
        | tup h r => exact ⟨_, _, rfl, .inr ⟨.of h, done (RD.tup h r)⟩⟩
      · cases e
        cases r1 with
        | tpk h r => exact ⟨_, _, rfl, .inr ⟨.inr h, done (RD.tpk h r)⟩⟩
      · obtain ⟨ds, e1, rfl⟩ := mapO e
        obtain ⟨p, ys, rfl, hq, r2⟩ := ls_ok a.hr r1 e1
        exact ⟨p, ys, rfl, .inl ⟨hq, fun l n => new_t a r2 q n⟩⟩
  · -- min
    cases e
    cases rx with
    | cons r1 t1 =>
      cases t1 with
      | cons r2 t2 =>
        cases t2
        cases r1
        cases r2
        exact ⟨_, _, rfl, done (.int _)⟩
  · -- max
    cases e
    cases rx with
    | cons r1 t1 =>
      cases t1 with
      | cons r2 t2 =>
        cases t2
        cases r1
        cases r2
        exact ⟨_, _, rfl, done (.int _)⟩
  · -- sum
    cases rx with
    | cons r1 t1 =>
      cases t1
      split at e
      · next ds e1 =>
        obtain ⟨is, e3, rfl⟩ := mapO e
        obtain ⟨p, ys, rfl, hq, r2⟩ := ls_ok a.hr r1 e1
        have e4 := intsD_ok e3 r2
        subst e4
        exact ⟨p, is, rfl, hq, done (.int _)⟩
      · cases e
  · -- all
    cases rx with
    | cons r1 t1 =>
      cases t1
      split at e
      · next ds e1 =>
        obtain ⟨is, e3, rfl⟩ := mapO e
        obtain ⟨p, ys, rfl, hq, r2⟩ := ls_ok a.hr r1 e1
        have e4 := boolsD_ok e3 r2
        subst e4
        exact ⟨p, is, rfl, hq, done (.bl _)⟩
      · cases e
  · -- any
    cases rx with
    | cons r1 t1 =>
      cases t1
      split at e
      · next ds e1 =>
        obtain ⟨is, e3, rfl⟩ := mapO e
        obtain ⟨p, ys, rfl, hq, r2⟩ := ls_ok a.hr r1 e1
        have e4 := boolsD_ok e3 r2
        subst e4
        exact ⟨p, is, rfl, hq, done (.bl _)⟩
      · cases e
  · -- int
    cases rx with
    | cons r1 t1 =>
      cases t1
      split at e
      · cases e
        cases r1
        exact .inl ⟨_, rfl, done (.int _)⟩
      · cases e
        cases r1
        exact .inr (.inl ⟨_, rfl, done (.int _)⟩)
      · split at e
        · next hl =>
          obtain ⟨n, e1, rfl⟩ := mapO e
          cases r1
          exact .inr (.inr ⟨_, n, rfl, e1, hl, done (.int _)⟩)
        · cases e
      · cases e
  · -- str
    cases rx with
    | cons r1 t1 =>
      cases t1
      split at e
      · split at e
        · next hl =>
          cases e
          cases r1
          exact .inl ⟨_, rfl, hl, done (.str _)⟩
        · cases e
      · cases e
        cases r1
        exact .inr ⟨_, rfl, done (.str _)⟩
      · cases e
  · -- abs
    cases e
    cases rx with
    | cons r1 t1 =>
      cases t1
      cases r1
      exact ⟨_, rfl, done (.int _)⟩
  · -- dict
    cases rx with
    | cons r1 t1 =>
      cases t1
      split at e
      · next kvs e1 =>
        cases e
        obtain ⟨p, ws, rfl, hp, r2⟩ := dk_ok a.hr r1 e1
        exact .inl ⟨p, ws, rfl, hp, fun l n => q _ _ M (.new n) (a.new n) ⟨l, ws, rfl, n, a.nin n, a.nF n, upd_same, r2.mono (.new n)⟩⟩
      · split at e
        · next ds e1 =>
          obtain ⟨kvs, e2, rfl⟩ := mapO e
          obtain ⟨p, ys, rfl, hq, r2⟩ := ls_ok a.hr r1 e1
          obtain ⟨ps, ws, rfl, hp, r3⟩ := pairsD_ok e2 r2
          exact .inr (.inl ⟨p, ps, ws, rfl, hq, hp, fun l n => q _ _ M (.new n) (a.new n) ⟨l, _, rfl, n, a.nin n, a.nF n, upd_same, (r3.merge .nil).mono (.new n)⟩⟩)
        · split at e
          · next kvs e1 =>
            split at e
            · next hh =>
              cases e
              obtain ⟨p, ws, rfl, hp, r2⟩ := dt_ok a.hr r1 e1
              have ek := r2.keys
              refine .inr (.inr ⟨p, ws, rfl, hp, fun kv hkv => ?_, ?_, fun l n => q _ _ M (.new n) (a.new n) ⟨l, ws, rfl, n, a.nin n, upd_same, r2.mono (.new n)⟩⟩)
              · have hm : kv.1 ∈ kvs.map (·.1) := by rw [ek]; exact List.mem_map.mpr ⟨kv, hkv, rfl⟩
                obtain ⟨d, hd, e3⟩ := List.mem_map.mp hm
                rw [← e3]
                exact List.all_eq_true.mp hh.1 d hd
              · have e4 : (ws.map fun kv => hashK kv.1) = kvs.map fun p => hashK p.1 := by
                  have := congrArg (List.map hashK) ek
                  rw [List.map_map, List.map_map] at this
                  exact this.symm
                rw [e4]
                exact hh.2
            · cases e
          · cases e
  · cases e
theorem se_bi {b : Bi} {x : Str} {p : Pos} (hc : X.calm = true) (hu : X.A.units + 65 < cLine) (hx : x = b.nm) (hg : Gl X x) (hm : X.mg x = none) (ha : PA X (e :: es) (tRs P rc A X.K W ces))
    (he : starEach (e :: es) X.env = (false, eval e X.env) :: starEach es X.env) (hpl : (backTo pos (starEach es X.env)).any (·.1) = false) : PE X (.Call (.Name x p) (e :: es) [] pos) (tE P rc A X.K W (.bi b ces)) := by
  refine (se_callB hc hu hx hg hm ha he hpl).imp fun σ H Q ⟨Φ, ρ, S, M, x, h⟩ => ⟨Φ, ρ, S, M, x, ?_⟩
  refine Post.bind h fun rs S1 vs H1 M1 s1 x1 rx h1 => ?_
  obtain ⟨r, e, q⟩ := Post.of (Post.rbR h1 s1)
  exact biR_ok x1 e rx q
/-! ### isinstance -/
theorem tyR_ok {K : PySem.W.Frag} {σ : St} {ρ : Loc} {M : List Addr} {H Hx : Hp} {S : Sto} {x : R} {v : V} {t : String} (a : At A K σ H ρ S M) (e : tyR S x = some t) (rx : RR A K M H Hx x v) : TyX K H v (.type t) := by
  unfold tyR at e
  split at e
  · cases e; cases rx; exact .base .non
  · cases e; cases rx; exact .base (.bl _)
  · cases e; cases rx; exact .base (.int _)
  · cases e; cases rx; exact .base (.str _)
  · cases e
    cases rx with
    | tup h r => exact .base (.tup h)
  · cases e
    cases rx with
    | tpk h r =>
      obtain ⟨o, its, n, h1, h2, _⟩ := h
      exact .kTuple h1 h2
  · cases e
    cases rx with
    | lst h r =>
      rcases h.1 with h | ⟨o, h⟩
      · exact .base (.lst h)
      · exact .base (.frz h)
  · cases e
    cases rx with
    | lsk h r =>
      obtain ⟨o, its, n, h1, h2, _⟩ := h
      exact .kList h1 h2
  · split at e
    · next q =>
      cases e
      cases rx with
      | ref hi =>
        obtain ⟨_, vs, h1, r⟩ := a.hr.at_ q hi
        exact .base (.lst h1)
    · cases e
  · cases e
    obtain ⟨p, vs, rfl, _, _, _, ha, _⟩ := rx
    exact .base (.lst ha)
  · cases e
theorem tyR_mem {S : Sto} {x : R} {t : String} (e : tyR S x = some t) : t ∈ ["NoneType", "bool", "int", "str", "tuple", "list"] := by
  unfold tyR at e
  split at e <;> first
    | (cases e; simp)
    | (split at e <;> first | (cases e; simp) | cases e)
    | cases e
theorem kitB_all : ∀ t ∈ ["NoneType", "bool", "int", "str", "tuple", "list"], ∀ c ∈ [Tn.int, .bool, .str, .tup, .lst], kitB t c.nm = some (isiB t c) := by decide +kernel
theorem kit_isi {K : PySem.W.Frag} {S : Sto} {x : R} {t : String} (e : tyR S x = some t) (c : Tn) : PySem.W.kitOne K (.type t) (.type c.nm) = some (isiB t c) :=
  kit_ty (kitB_all t (tyR_mem e) c (by cases c <;> simp))
theorem kitA_isi {K : PySem.W.Frag} {S : Sto} {x : R} {t : String} (e : tyR S x = some t) : ∀ cs : List Tn, PySem.W.kitAny K (.type t) (cs.map fun c => .type c.nm) = some (cs.any (isiB t))
  | [] => rfl
  | c :: cs => by
    rw [List.map_cons, List.any_cons]
    refine kitAny_cons (kit_isi e c) (fun h => ?_) (fun h => ?_)
    · rw [kitA_isi e cs, h, Bool.false_or]
    · rw [h, Bool.true_or]
def tNs (ts : List Tn) : TA := fun _ H Q => Q (ts.map fun c => V.ty c.nm) H
theorem sn_name {c : Tn} {x : Str} (hx : x = Str.ofString c.nm) (hg : Gl X x) (hm : X.mg x = none) : PE X (.Name x pos) (tC (.ty c.nm)) := by
  subst hx
  cases c <;> exact pe_bltn hg hm (by decide +kernel) rfl (by decide) (by decide)
theorem sn_nil : PA X [] (tNs []) := pa_nil.imp fun σ H Q h => h
theorem sn_cons {t : Tn} {ts : List Tn} (ha : PE X e (tC (.ty t.nm))) (hr : PA X es (tNs ts)) (hs : starEach (e :: es) X.env = (false, eval e X.env) :: starEach es X.env) : PA X (e :: es) (tNs (t :: ts)) :=
  (pa_cons ha hr hs).imp fun σ H Q h => h
theorem paired_ns : ∀ ts : List Tn, Paired ClsV (ts.map fun c => V.ty c.nm) (ts.map fun c => Value.type c.nm)
  | [] => .nil
  | c :: cs => .cons (.ty _) (paired_ns cs)
theorem se_isi1 {t : Tn} {p : Pos} (hg : Gl X "isinstance") (hm : X.mg "isinstance" = none) (ha : PE X a (tE P rc A X.K W ca)) (hb : PE X b (tC (.ty t.nm)))
    (h1 : starEach [a, b] X.env = (false, eval a X.env) :: starEach [b] X.env) (h2 : starEach [b] X.env = (false, eval b X.env) :: starEach [] X.env) (hpl : (backTo pos (starEach [b] X.env)).any (·.1) = false) :
    PE X (.Call (.Name "isinstance" p) [a, b] [] pos) (tE P rc A X.K W (.isi ca [t])) := by
  refine (pe_callB call_isi hg hm (by decide +kernel) (pa_cons ha (pa_cons hb pa_nil h2) h1) (by decide) (by decide) h1 hpl).imp fun σ H Q ⟨Φ, ρ, S, M, x, h⟩ => ⟨Φ, ρ, S, M, x, ?_⟩
  refine Post.bind h fun r S1 v H1 M1 s1 x1 rx h1 => ?_
  cases e : tyR S1 r with
  | none => rw [e] at h1; exact h1.elim
  | some tt =>
    rw [e] at h1
    refine ⟨v, _, _, _, _, rfl, .ty _, tyR_ok x1 e rx, kit_isi e t, ?_⟩
    have h2 := h1 _ H1 M1 s1 x1 (.bl _)
    rw [List.any_cons, List.any_nil, Bool.or_false] at h2
    exact h2
theorem se_isiT {ts : List Tn} {p : Pos} {k pt} (hl : ts.length ≤ 100) (hg : Gl X "isinstance") (hm : X.mg "isinstance" = none) (ha : PE X a (tE P rc A X.K W ca)) (hb : PA X es (tNs ts))
    (h1 : starEach [a, .Tuple es k pt] X.env = (false, eval a X.env) :: starEach [.Tuple es k pt] X.env) (hpl : (backTo pos (starEach [.Tuple es k pt] X.env)).any (·.1) = false) :
    PE X (.Call (.Name "isinstance" p) [a, .Tuple es k pt] [] pos) (tE P rc A X.K W (.isi ca ts)) := by
  refine (pe_callB call_isiT hg hm (by decide +kernel) (pa_cons ha (pa_cons (pe_tup hb) pa_nil rfl) h1) (by decide) (by decide) h1 hpl).imp fun σ H Q ⟨Φ, ρ, S, M, x, h⟩ => ⟨Φ, ρ, S, M, x, ?_⟩
  refine Post.bind h fun r S1 v H1 M1 s1 x1 rx h1 => ?_
  cases e : tyR S1 r with
  | none => rw [e] at h1; exact h1.elim
  | some tt =>
    rw [e] at h1
    refine ⟨by rw [List.length_map, sizeLine_eq]; omega, fun p n => ?_⟩
    have x2 := x1.new (o := .tup (ts.map fun c => V.ty c.nm)) n
    refine ⟨v, p, _, _, _, _, rfl, upd_same, paired_ns ts, tyR_ok x2 e (RR.mono (.new n) rx), kitA_isi e ts, ?_⟩
    exact h1 _ _ M1 (s1.trans (.new n)) x2 (.bl _)
end
end Pl
/-! The readings of slices, of lists' methods, of calls of defs. -/
namespace Pl
open PySem PySem.Spec
open PyProof.Rows hiding St
open L2
section
variable {P : Pg} {rc : Nat → List D → Sto → O R} {A : Adr} {W : WX} {X : Cx} {pos p2 : Pos} {a b c e o : Expr} {ca cb cc : E} {es : List Expr} {ces : Es}
/-! ### slices -/
def rSl (K : PySem.W.Frag) : V → Option Int → Option Int → Hp → VK → Prop := fun x lo hi H Q => rSlL K x lo hi H Q ∨ rSlA K x lo hi H Q ∨ rSlS x lo hi H Q
theorem sl_any : SlR X (rSl X.K) := sl_list.or (sl_tupA.or sl_str)
theorem RDs.cut {K : PySem.W.Frag} {M : List Addr} {H : Hp} {ds : List D} {vs : List V} (r : RDs A K M H ds vs) (lo hi : Option Int) : RDs A K M H (cut ds lo hi) (cutV vs lo hi) := by
  unfold Pl.cut cutV
  rw [r.length]
  exact (r.drop _).take _
theorem cut_whole {ds : List D} {lo hi : Option Int} (h : HT.sIx ds.length 0 lo = 0 ∧ HT.sIx ds.length ds.length hi = ds.length) : cut ds lo hi = ds := by
  unfold cut
  rw [h.1, h.2]
  simp
theorem slR_ok {K : PySem.W.Frag} {σ : St} {ρ : Loc} {M : List Addr} {H Hx : Hp} {S : Sto} {x r : R} {v : V} {Q : V → Hp → Prop} {lo hi : Option Int} (a : At A K σ H ρ S M) (e : slR S x lo hi = some r) (rx : RR A K M H Hx x v)
    (q : ∀ w H' M', Stp K M H M' H' → At A K σ H' ρ S M' → RR A K M' H' H r w → Q w H') : rSl K v lo hi H Q := by
  have done : ∀ {w}, RR A K M H H r w → Q w H := fun h => q _ H M .refl a h
  unfold slR at e
  split at e
  · next ds =>
    cases e
    cases rx with
    | tup h r1 =>
      refine .inr (.inl ⟨_, _, rfl, .of h, fun hw => ?_, fun _ p n => new_t a (RDs.cut r1 lo hi) q n⟩)
      rw [← r1.length] at hw
      rw [cut_whole hw] at done
      exact done (RD.tup h r1)
  · split at e
    · next hl =>
      cases e
      cases rx
      exact .inr (.inr ⟨_, rfl, hl, done (.str _)⟩)
    · cases e
  · obtain ⟨ds, e1, rfl⟩ := mapO e
    obtain ⟨p, ys, rfl, hq, r2⟩ := ls_ok a.hr rx e1
    exact .inl ⟨p, ys, rfl, hq, fun l n => new_l a (RDs.cut r2 lo hi) q n⟩
theorem se_sl (ha : PE X a (tE P rc A X.K W ca)) : PE X (.Subscript a (.Slice none none none p2) pos) (tE P rc A X.K W (.sl ca)) := by
  refine (pe_slice sl_any ha po_none po_none).imp fun σ H Q ⟨Φ, ρ, S, M, x, h⟩ => ⟨Φ, ρ, S, M, x, ?_⟩
  refine Post.bind h fun r1 S1 v H1 M1 s1 x1 rx h1 => ?_
  obtain ⟨r, e, q⟩ := Post.of (Post.rbR h1 s1)
  exact slR_ok x1 e rx q
theorem Post.int {K : PySem.W.Frag} {σ : St} {ρ : Loc} {M : List Addr} {H H0 : Hp} {y : R} {u : V} {f : Int → O R} {Q : VK} (ry : RR A K M H H0 y u) (h : Post A K W (RRl A K) σ ρ M H (match intR y with
    | some i => f i
    | none => .no) Q) : ∃ i, u = .int i ∧ Post A K W (RRl A K) σ ρ M H (f i) Q := by
  cases e : intR y with
  | none => rw [e] at h; exact h.elim
  | some i =>
    rw [e] at h
    exact ⟨i, intR_ok e ry, h⟩
theorem se_slA (ha : PE X a (tE P rc A X.K W ca)) (hb : PE X b (tE P rc A X.K W cb)) : PE X (.Subscript a (.Slice (some b) none none p2) pos) (tE P rc A X.K W (.slA ca cb)) := by
  refine (pe_slice sl_any ha (po_some hb) po_none).imp fun σ H Q ⟨Φ, ρ, S, M, x, h⟩ => ⟨Φ, ρ, S, M, x, ?_⟩
  refine Post.bind h fun r1 S1 v H1 M1 s1 x1 rx h1 => ⟨Φ, ρ, S1, M1, x1, ?_⟩
  refine Post.bind (Post.rbR h1 s1) fun r2 S2 u H2 M2 s2 x2 ry h2 => ?_
  obtain ⟨i, rfl, h3⟩ := Post.int ry (Post.rbR h2 s2)
  obtain ⟨r, e, q⟩ := Post.of h3
  exact ⟨i, rfl, slR_ok x2 e (rx.mono s2) q⟩
theorem se_slB (ha : PE X a (tE P rc A X.K W ca)) (hb : PE X b (tE P rc A X.K W cb)) : PE X (.Subscript a (.Slice none (some b) none p2) pos) (tE P rc A X.K W (.slB ca cb)) := by
  refine (pe_slice sl_any ha po_none (po_some hb)).imp fun σ H Q ⟨Φ, ρ, S, M, x, h⟩ => ⟨Φ, ρ, S, M, x, ?_⟩
  refine Post.bind h fun r1 S1 v H1 M1 s1 x1 rx h1 => ⟨Φ, ρ, S1, M1, x1, ?_⟩
  refine Post.bind (Post.rbR h1 s1) fun r2 S2 u H2 M2 s2 x2 ry h2 => ?_
  obtain ⟨i, rfl, h3⟩ := Post.int ry (Post.rbR h2 s2)
  obtain ⟨r, e, q⟩ := Post.of h3
  exact ⟨i, rfl, slR_ok x2 e (rx.mono s2) q⟩
theorem se_slAB (ha : PE X a (tE P rc A X.K W ca)) (hb : PE X b (tE P rc A X.K W cb)) (hc : PE X c (tE P rc A X.K W cc)) : PE X (.Subscript a (.Slice (some b) (some c) none p2) pos) (tE P rc A X.K W (.slAB ca cb cc)) := by
  refine (pe_slice sl_any ha (po_some hb) (po_some hc)).imp fun σ H Q ⟨Φ, ρ, S, M, x, h⟩ => ⟨Φ, ρ, S, M, x, ?_⟩
  refine Post.bind h fun r1 S1 v H1 M1 s1 x1 rx h1 => ⟨Φ, ρ, S1, M1, x1, ?_⟩
  refine Post.bind (Post.rbR h1 s1) fun r2 S2 u H2 M2 s2 x2 ry h2 => ?_
  obtain ⟨i, rfl, h2⟩ := Post.int ry (Post.rbR h2 s2)
  refine ⟨i, rfl, Φ, ρ, S2, M2, x2, ?_⟩
  refine Post.bind h2 fun r3 S3 w H3 M3 s3 x3 rz h3 => ?_
  obtain ⟨j, rfl, h3⟩ := Post.int rz (Post.rbR h3 s3)
  obtain ⟨r, e, q⟩ := Post.of h3
  exact ⟨j, rfl, slR_ok x3 e ((rx.mono s2).mono s3) q⟩
theorem se_rev {k : Nat} {p1 p2 p3 : Pos} (ha : PE X a (tE P rc A X.K W ca)) : PE X (.Subscript a (.Slice none none (some (.UnaryOp .USub (.Constant (.int 1) k p1) p2)) p3) pos) (tE P rc A X.K W (.rev ca)) := by
  refine (pe_revA ha).imp fun σ H Q ⟨Φ, ρ, S, M, x, h⟩ => ⟨Φ, ρ, S, M, x, ?_⟩
  refine Post.bind h fun r1 S1 v H1 M1 s1 x1 rx h1 => ?_
  obtain ⟨r, e, q⟩ := Post.of (Post.rbR h1 s1)
  unfold revR at e
  split at e
  · cases e
    cases rx with
    | tup hb r2 => exact ⟨_, _, rfl, .inr ⟨.of hb, fun l n => new_t x1 r2.rev q n⟩⟩
  · obtain ⟨ds, e1, rfl⟩ := mapO e
    obtain ⟨p, ys, rfl, hq, r2⟩ := ls_ok x1.hr rx e1
    exact ⟨p, ys, rfl, .inl ⟨hq, fun l n => new_l x1 r2.rev q n⟩⟩
theorem optsD_ok {K : PySem.W.Frag} {M : List Addr} {H : Hp} : ∀ {ds : List D} {vs : List V} {os : List (Option Int)}, optsD ds = some os → RDs A K M H ds vs → vs = os.map oV
  | [], _, _, e, .nil => by cases e; rfl
  | d :: ds, _, _, e, .cons h r => by
    unfold optsD at e
    split at e
    · next heq => cases heq
    · next i _ heq =>
      cases heq
      obtain ⟨js, e3, rfl⟩ := mapO e
      cases h
      rw [optsD_ok e3 r]
      rfl
    · next _ heq =>
      cases heq
      obtain ⟨js, e3, rfl⟩ := mapO e
      cases h
      rw [optsD_ok e3 r]
      rfl
    · cases e
/-! ### methods of the built-in types -/
def rBm (K : PySem.W.Frag) (m : Bm) : V → List V → Hp → VK → Prop := fun x vs H Q => match m with
  | .append => rAppend x vs H Q
  | .pop => rPop x vs H Q
  | .clear => rClear x vs H Q
  | .insert => ∃ (l : Addr) (xs : List V) (i : Int) (y : V), x = .ref l ∧ vs = [.int i, y] ∧ H l = some (.lst xs) ∧ xs.length < sizeLine ∧ 0 ≤ i ∧ i < 2 ^ 63 ∧ Q .non (upd H l (.lst (xs.take i.toNat ++ [y] ++ xs.drop i.toNat)))
  | .index => rIndexD K x vs H Q
  | .count => rCntI K x vs H Q ∨ rCntO K x vs H Q
  | .split => ∃ a b, x = .str a ∧ vs = [.str b] ∧ (b.length == 0) = false ∧ a.length + 2 ≤ sizeLine ∧ rNewStrs (PySem.Txt.split a b) H Q
  | .join => ∃ (a : Str) (p : Addr) (ys : List Str), x = .str a ∧ vs = [.ref p] ∧ (SqL K H p (ys.map V.str) ∨ SqT K H p (ys.map V.str)) ∧ (ys.map (·.length)).sum + ys.length * a.length ≤ 16777216 ∧ Q (.str (PySem.Txt.join a ys)) H
  | .find => ∃ a b, x = .str a ∧ vs = [.str b] ∧ Q (.int (PySem.Txt.find a b)) H
  | .popI => rPopAt x vs H Q
  | _ => False
def Bm.nm : Bm → Str
  | .append => "append" | .pop => "pop" | .index => "index" | .insert => "insert" | .clear => "clear" | .count => "count" | .split => "split" | .join => "join" | .find => "find" | .get => "get" | .get2 => "get" | .popK => "pop" | .popI => "pop" | .setd => "setdefault"
def Bm.id : Bm → String
  | .append => "list.append" | .pop => "list.pop" | .index => "list.index" | .insert => "list.insert" | .clear => "list.clear" | .count => "list.count" | .split => "str.split" | .join => "str.join" | .find => "str.find" | .get => "dict.get" | .get2 => "dict.get" | .popK => "dict.pop" | .popI => "list.pop" | .setd => "dict.setdefault"
def Bm.ty : Bm → String
  | .split => "str" | .join => "str" | .find => "str" | _ => "list"
theorem mt_bm (hu : X.A.units + 65 < cLine) (m : Bm) : MtR X m.id (rBm X.K m) := by
  intro pins s σ H x xs v us Q I rx rxs h
  cases m with
  | append => exact mt_append pins s σ H x xs v us Q I rx rxs h
  | pop => exact mt_pop pins s σ H x xs v us Q I rx rxs h
  | clear => exact mt_clear pins s σ H x xs v us Q I rx rxs h
  | insert => exact mt_insert pins s σ H x xs v us Q I rx rxs h
  | index => exact mt_indexD hu pins s σ H x xs v us Q I rx rxs h
  | count =>
    rcases h with h | h
    · exact mt_lcount pins s σ H x xs v us Q I rx rxs h
    · exact mt_lcountO pins s σ H x xs v us Q I rx rxs h
  | split => exact mt_split pins s σ H x xs v us Q I rx rxs h
  | join => exact mt_join pins s σ H x xs v us Q I rx rxs h
  | find => exact mt_find pins s σ H x xs v us Q I rx rxs h
  | popI => exact mt_popAt pins s σ H x xs v us Q I rx rxs h
  | _ => exact h.elim
theorem indexD_ok {p : PyData} : ∀ {ps : List PyData} {n j : Nat}, indexD p ps n = some j → ∃ i z, j = n + i ∧ ps[i]? = some z ∧ PyData.eqv z p = true ∧ ∀ (m : Nat) (z' : PyData), m < i → ps[m]? = some z' → PyData.eqv z' p = false
  | [], _, _, e => by cases e
  | z :: zs, n, j, e => by
    unfold indexD at e
    split at e
    · next h =>
      cases e
      exact ⟨0, z, rfl, rfl, h, fun m z' hm => absurd hm (Nat.not_lt_zero _)⟩
    · next h =>
      obtain ⟨i, z', h1, h2, h3, h4⟩ := indexD_ok e
      refine ⟨i + 1, z', by omega, by simpa using h2, h3, fun m w hm hw => ?_⟩
      cases m with
      | zero =>
        simp at hw
        subst hw
        simpa using h
      | succ m => exact h4 m w (by omega) (by simpa using hw)
theorem noLs_app : ∀ {a b : List D}, noLs a = true → noLs b = true → noLs (a ++ b) = true
  | [], _, _, h => h
  | x :: a, b, h1, h2 => by
    have h1 := Bool.and_eq_true_iff.mp (show (noL x && noLs a) = true from h1)
    exact Bool.and_eq_true_iff.mpr ⟨h1.1, noLs_app h1.2 h2⟩
theorem noLs_mem {a : List D} : noLs a = true ↔ ∀ x ∈ a, noL x = true := by
  induction a with
  | nil => simp [noLs]
  | cons x a ih => simp [noLs, ih]
theorem noLs_take {a : List D} (n : Nat) (h : noLs a = true) : noLs (a.take n) = true := noLs_mem.mpr fun x hx => noLs_mem.mp h x (List.mem_of_mem_take hx)
theorem noLs_drop {a : List D} (n : Nat) (h : noLs a = true) : noLs (a.drop n) = true := noLs_mem.mpr fun x hx => noLs_mem.mp h x (List.mem_of_mem_drop hx)
theorem noLs_one {y : D} (h : noL y = true) : noLs [y] = true := Bool.and_eq_true_iff.mpr ⟨h, rfl⟩
theorem noL_put {κ : Type} [DecidableEq κ] {k : κ} {d : D} {l : List (κ × D)} (h : noLs (l.map (·.2)) = true) (hd : noL d = true) : noLs ((putM k d l).map (·.2)) = true := by
  unfold putM
  split
  · rw [noLs_mem] at *
    intro x hx
    rw [List.map_map] at hx
    obtain ⟨p, hp, rfl⟩ := List.mem_map.mp hx
    show noL (if p.1 = k then (p.1, d) else p).2 = true
    split
    · exact hd
    · exact h _ (List.mem_map_of_mem hp)
  · rw [List.map_append]
    exact noLs_app h (noLs_one hd)
theorem bmR_ok {K : PySem.W.Frag} {σ : St} {ρ : Loc} {M : List Addr} {H Hx : Hp} {S S' : Sto} {x y : R} {v : V} {ds : List D} {vs : List V} {Q : V → Hp → Prop} {m : Bm} (a : At A K σ H ρ S M) (e : bmR m S x ds = some (y, S')) (rx : RR A K M H Hx x v) (rs : RDs A K M H ds vs)
    (q : ∀ w H' M', Stp K M H M' H' → At A K σ H' ρ S' M' → RR A K M' H' H y w → Q w H') (nd : m ≠ .get ∧ m ≠ .get2 ∧ m ≠ .popK ∧ m ≠ .setd) : rBm K m v vs H Q := by
  unfold bmR at e
  split at e
  · -- append
    split at e
    · next es e1 =>
      split at e
      · next hl =>
        cases e
        cases rx with
        | ref hi =>
          obtain ⟨nl, ws, h1, r1⟩ := a.hr.at_ e1 hi
          cases rs with
          | @cons d1 v1 ds1 vs1 rd t =>
            cases t
            have s1 : Stp K M H M (upd H _ (.lst (ws ++ [v1]))) := stp_at a.hr e1 hi
            obtain ⟨s2, x2⟩ := set_ok (u := .lst (ws ++ [v1])) a e1 hi (o' := .lst (es ++ [_])) ⟨noLs_app nl (noLs_one hl.2), _, upd_same, (RDs.append r1 (.cons rd .nil)).mono s1⟩
            exact ⟨_, ws, _, rfl, rfl, h1, by rw [← r1.length]; exact hl.1, q _ _ M s2 x2 .non⟩
      · cases e
    · cases e
  · -- pop
    split at e
    · next es e1 =>
      split at e
      · next d e2 =>
        cases e
        cases rx with
        | ref hi =>
          obtain ⟨nl, ws, h1, r1⟩ := a.hr.at_ e1 hi
          cases rs
          rw [r1.length] at e2
          obtain ⟨w, e3, rw'⟩ := r1.get e2
          have s1 : Stp K M H M (upd H _ (.lst ws.dropLast)) := stp_at a.hr e1 hi
          obtain ⟨s2, x2⟩ := set_ok (u := .lst ws.dropLast) a e1 hi (o' := .lst es.dropLast) ⟨noLs_mem.mpr fun x hx => noLs_mem.mp nl x (List.dropLast_subset _ hx), _, upd_same, r1.dropLast.mono s1⟩
          exact ⟨_, ws, w, rfl, rfl, h1, e3, q _ _ M s2 x2 (RD.mono s1 rw')⟩
      · cases e
    · cases e
  · -- clear
    split at e
    · next es e1 =>
      cases e
      cases rx with
      | ref hi =>
        obtain ⟨nl, ws, h1, r1⟩ := a.hr.at_ e1 hi
        cases rs
        obtain ⟨s2, x2⟩ := set_ok (u := .lst []) a e1 hi (o' := .lst []) ⟨rfl, _, upd_same, .nil⟩
        exact ⟨_, ws, rfl, rfl, h1, q _ _ M s2 x2 .non⟩
    · cases e
  · -- insert
    rename_i a0 i y0
    split at e
    · next es e1 =>
      split at e
      · next hl =>
        cases e
        cases rx with
        | ref hi =>
          obtain ⟨nl, ws, h1, r1⟩ := a.hr.at_ e1 hi
          cases rs with
          | cons ri t =>
            cases ri
            cases t with
            | @cons d1 v1 ds1 vs1 rd t =>
              cases t
              have s1 : Stp K M H M (upd H _ (.lst (ws.take i.toNat ++ [v1] ++ ws.drop i.toNat))) := stp_at a.hr e1 hi
              obtain ⟨s2, x2⟩ := set_ok (u := .lst (ws.take i.toNat ++ [v1] ++ ws.drop i.toNat)) a e1 hi (o' := .lst (es.take i.toNat ++ [_] ++ es.drop i.toNat))
                ⟨noLs_app (noLs_app (noLs_take _ nl) (noLs_one hl.2.1)) (noLs_drop _ nl), _, upd_same, (((r1.take _).append (.cons rd .nil)).append (r1.drop _)).mono s1⟩
              exact ⟨_, ws, i, v1, rfl, rfl, h1, by rw [← r1.length]; exact hl.1, hl.2.2.1, hl.2.2.2, q _ _ M s2 x2 .non⟩
      · cases e
    · cases e
  · -- index
    split at e
    · next es e1 =>
      split at e
      · next p ps e2 e3 =>
        split at e
        · next hs =>
          rw [Bool.and_eq_true] at hs
          split at e
          case h_2 => cases e
          next j e4 =>
          cases e
          obtain ⟨pa, ws, rfl, hq, r1⟩ := ls_ok a.hr rx e1
          cases rs with
          | cons rd t =>
            cases t
            obtain ⟨i, z, h1, h2, h3, h4⟩ := indexD_ok e4
            refine ⟨pa, _, p, ps, i, z, rfl, rfl, .lst hq (pyDs_ok e3 r1), pyD_ok e2 rd, hs.2, hs.1, h2, h3, h4, ?_⟩
            have hj : j = i := by omega
            subst hj
            exact q _ H M .refl a (.int _)
        · cases e
      · cases e
    · cases e
  · -- count
    split at e
    · next es e1 =>
      obtain ⟨pa, ws, rfl, hq, r1⟩ := ls_ok a.hr rx e1
      split at e
      · next is e4 =>
        cases e
        have e6 := intsD_ok e4 r1
        subst e6
        cases rs with
        | cons rd t =>
          cases t
          cases rd
          exact .inl ⟨pa, is, _, rfl, rfl, hq, q _ H M .refl a (.int _)⟩
      · obtain ⟨os, e4, e5⟩ := mapO e
        cases e5
        have e6 := optsD_ok e4 r1
        subst e6
        cases rs with
        | cons rd t =>
          cases t
          cases rd
          exact .inr ⟨pa, os, _, rfl, rfl, hq, q _ H M .refl a (.int _)⟩
    · cases e
  · -- split
    split at e
    · next hl =>
      cases e
      cases rx
      cases rs with
      | cons rd t =>
        cases t
        cases rd
        exact ⟨_, _, rfl, rfl, hl.1, hl.2, fun p n => new_l a (strs_rd _) q n⟩
    · cases e
  · -- join
    split at e
    · next es e1 =>
      split at e
      · next xs e2 =>
        split at e
        · next hl =>
          cases e
          cases rx
          cases rs with
          | cons rd t =>
            cases t
            obtain ⟨pa, ws, rfl, hq, r1⟩ := sq_ok (H0 := H) a.hr (show RR A K M H H (.v _) _ from rd) e1
            have e6 := strsD_ok e2 r1
            subst e6
            exact ⟨_, pa, xs, rfl, rfl, hq, hl, q _ H M .refl a (.str _)⟩
        · cases e
      · cases e
    · cases e
  · -- find
    cases e
    cases rx
    cases rs with
    | cons rd t =>
      cases t
      cases rd
      exact ⟨_, _, rfl, rfl, q _ H M .refl a (.int _)⟩
  · exact absurd rfl nd.1
  · exact absurd rfl nd.2.1
  · exact absurd rfl nd.2.2.1
  · -- pop(i)
    rename_i a0 i
    split at e
    · next es e1 =>
      split at e
      · next hl =>
        split at e
        · next d e2 =>
          cases e
          cases rx with
          | ref hi =>
            obtain ⟨nl, ws, h1, r1⟩ := a.hr.at_ e1 hi
            cases rs with
            | cons ri t =>
              cases ri
              cases t
              obtain ⟨w, e3, rw'⟩ := r1.get e2
              have s1 : Stp K M H M (upd H _ (.lst (ws.eraseIdx i.toNat))) := stp_at a.hr e1 hi
              obtain ⟨s2, x2⟩ := set_ok (u := .lst (ws.eraseIdx i.toNat)) a e1 hi (o' := .lst (es.eraseIdx i.toNat)) ⟨noLs_mem.mpr fun x hx => noLs_mem.mp nl x (List.mem_of_mem_eraseIdx hx), _, upd_same, (r1.eraseIdx _).mono s1⟩
              have hk : i.toNat < ws.length := (List.getElem?_eq_some_iff.mp e3).1
              have h62 : (2 : Int) ^ 62 ≤ 2 ^ 63 := by decide
              have sx : PySem.seqIndex? i ws.length = some i.toNat := by
                unfold PySem.seqIndex?
                rw [if_neg (by omega : ¬ i < 0)]
                have : (decide (0 ≤ i) && decide (i < (ws.length : Int))) = true := by
                  rw [Bool.and_eq_true, decide_eq_true_eq, decide_eq_true_eq]
                  omega
                exact if_pos this
              exact ⟨_, ws, i, i.toNat, w, rfl, rfl, h1, Int.le_trans (by decide) hl.1, Int.lt_of_lt_of_le hl.2 h62, sx, e3, q _ _ M s2 x2 (RD.mono s1 rw')⟩
        · cases e
      · cases e
    · cases e
  · exact absurd rfl nd.2.2.2
  · cases e
theorem tyV_bm {K : PySem.W.Frag} {M : List Addr} {H Hx : Hp} {S : Sto} {x : R} {v : V} {m : Bm} (a : HR A K M H S) (rx : RR A K M H Hx x v) (e : bmOk m S x = true) (nd : m ≠ .get ∧ m ≠ .get2 ∧ m ≠ .popK ∧ m ≠ .setd) : tyV K m.ty v H := by
  have ls : (lsOf S x).isSome = true → tyV K "list" v H := fun e => by
    cases e1 : lsOf S x with
    | none => rw [e1] at e; cases e
    | some ds =>
      obtain ⟨p, vs, rfl, h1, r1⟩ := ls_ok a rx e1
      exact .inl ⟨rfl, _, h1⟩
  unfold bmOk at e
  cases m with
  | get => exact absurd rfl nd.1
  | get2 => exact absurd rfl nd.2.1
  | popK => exact absurd rfl nd.2.2.1
  | setd => exact absurd rfl nd.2.2.2
  | split =>
    simp only at e
    split at e
    · cases rx; rfl
    · cases e
  | join =>
    simp only at e
    split at e
    · cases rx; rfl
    · cases e
  | find =>
    simp only at e
    split at e
    · cases rx; rfl
    · cases e
  | _ => exact ls e
theorem Post.ifP {α β : Type} {Rl : Rel α β} {K : PySem.W.Frag} {σ : St} {ρ : Loc} {M : List Addr} {H : Hp} {c : Prop} [Decidable c] {o : O α} {Q : β → Hp → Prop} (h : Post A K W Rl σ ρ M H (if c then o else .no) Q) : c ∧ Post A K W Rl σ ρ M H o Q := by
  by_cases hc : c
  · rw [if_pos hc] at h
    exact ⟨hc, h⟩
  · rw [if_neg hc] at h
    exact h.elim
theorem Post.pair {K : PySem.W.Frag} {σ : St} {ρ : Loc} {M : List Addr} {H : Hp} {Q : VK} {z : Option (R × Sto)} (h : Post A K W (RRl A K) σ ρ M H (pairO z) Q) : ∃ y S', z = some (y, S') ∧ ∀ w H' M', Stp K M H M' H' → At A K σ H' ρ S' M' → RR A K M' H' H y w → Q w H' := by
  cases z with
  | none => exact h.elim
  | some p => exact ⟨p.1, p.2, rfl, h⟩
theorem tBM_ok {m : Bm} {σ : St} {H : Hp} {Q : VK} {ρ : Loc} {S : Sto} {M Φ : List Addr} (nd : m ≠ .get ∧ m ≠ .get2 ∧ m ≠ .popK ∧ m ≠ .setd) (x : At (A.w Φ) X.K σ H ρ S M) (h : Post (A.w Φ) X.K W (RRl (A.w Φ) X.K) σ ρ M H (evE P rc (.bm m ca ces) ρ S) Q) :
    tBM X.K m.ty (rBm X.K m) (tE P rc A X.K W ca) (tEs P rc A X.K W ces) σ H Q := by
  refine ⟨Φ, ρ, S, M, x, ?_⟩
  refine Post.bind h fun r1 S1 v H1 M1 s1 x1 rx h1 => ?_
  obtain ⟨ok, h1⟩ := Post.ifP (Post.rbR h1 s1)
  refine ⟨tyV_bm x1.hr rx ok nd, Φ, ρ, S1, M1, x1, ?_⟩
  refine Post.bind h1 fun ds S2 vs H2 M2 s2 x2 rs h2 => ?_
  obtain ⟨y, S3, e, q⟩ := Post.pair (Post.rbR h2 s2)
  exact bmR_ok x2 e (rx.mono s2) rs q nd
theorem se_bm {m : Bm} (hm : m = .append ∨ m = .insert ∨ m = .index ∨ m = .count ∨ m = .split ∨ m = .join ∨ m = .find ∨ m = .popI) {x : Str} {apos : Pos} (hu : X.A.units + 65 < cLine) (hx : x = m.nm) (ho : PE X o (tE P rc A X.K W ca)) (ha : PA X (e :: es) (tEs P rc A X.K W ces))
    (hbase : attributeBase o m.nm X.env (eval o X.env) = eval o X.env)
    (hfew : ((backTo pos (starEach (e :: es) X.env)).all (fun x => !x.1) && (backToKw pos (keywordEach [] X.env)).all (fun x => x.1.isSome)
      && decide ((e :: es).length + ([] : List Keyword).length + (if ([] : List Keyword).isEmpty then 0 else 1) < 30)) = true)
    (hline : (apos.endLine == pos.line) = true) (hs : starEach (e :: es) X.env = (false, eval e X.env) :: starEach es X.env) (hplain : (backTo pos (starEach es X.env)).any (·.1) = false) :
    PE X (.Call (.Attribute o x apos) (e :: es) [] pos) (tE P rc A X.K W (.bm m ca ces)) := by
  subst hx
  have nd : m ≠ .get ∧ m ≠ .get2 ∧ m ≠ .popK ∧ m ≠ .setd := by
    rcases hm with rfl | rfl | rfl | rfl | rfl | rfl | rfl | rfl <;> exact ⟨nofun, nofun, nofun, nofun⟩
  have g : PE X (.Call (.Attribute o m.nm apos) (e :: es) [] pos) (tBM X.K m.ty (rBm X.K m) (tE P rc A X.K W ca) (tEs P rc A X.K W ces)) := by
    rcases hm with rfl | rfl | rfl | rfl | rfl | rfl | rfl | rfl
    · exact pe_bm PySem.F.plainAttrs_list PySem.F.slot_list_append PySem.F.type_list_append (mt_bm hu .append) ho ha hbase hfew hline hs hplain
    · exact pe_bm PySem.F.plainAttrs_list PySem.F.slot_list_insert PySem.F.type_list_insert (mt_bm hu .insert) ho ha hbase hfew hline hs hplain
    · exact pe_bm PySem.F.plainAttrs_list PySem.F.slot_list_index PySem.F.type_list_index (mt_bm hu .index) ho ha hbase hfew hline hs hplain
    · exact pe_bm PySem.F.plainAttrs_list PySem.F.slot_list_count PySem.F.type_list_count (mt_bm hu .count) ho ha hbase hfew hline hs hplain
    · exact pe_bm PySem.F.plainAttrs_str PySem.F.slot_str_split PySem.F.type_str_split (mt_bm hu .split) ho ha hbase hfew hline hs hplain
    · exact pe_bm PySem.F.plainAttrs_str PySem.F.slot_str_join PySem.F.type_str_join (mt_bm hu .join) ho ha hbase hfew hline hs hplain
    · exact pe_bm PySem.F.plainAttrs_str PySem.F.slot_str_find PySem.F.type_str_find (mt_bm hu .find) ho ha hbase hfew hline hs hplain
    · exact pe_bm PySem.F.plainAttrs_list PySem.F.slot_list_pop PySem.F.type_list_pop (mt_bm hu .popI) ho ha hbase hfew hline hs hplain
  exact g.imp fun σ H Q ⟨Φ, ρ, S, M, x, h⟩ => tBM_ok nd x h
theorem se_bm0 {m : Bm} (hm : m = .pop ∨ m = .clear) {x : Str} {apos : Pos} (hu : X.A.units + 65 < cLine) (hx : x = m.nm) (ho : PE X o (tE P rc A X.K W ca))
    (hbase : attributeBase o m.nm X.env (eval o X.env) = eval o X.env) (hline : (apos.endLine == pos.line) = true) :
    PE X (.Call (.Attribute o x apos) [] [] pos) (tE P rc A X.K W (.bm m ca .nil)) := by
  subst hx
  have nd : m ≠ .get ∧ m ≠ .get2 ∧ m ≠ .popK ∧ m ≠ .setd := by
    rcases hm with rfl | rfl <;> exact ⟨nofun, nofun, nofun, nofun⟩
  have g : PE X (.Call (.Attribute o m.nm apos) [] [] pos) (tBM0 X.K m.ty (rBm X.K m) (tE P rc A X.K W ca)) := by
    rcases hm with rfl | rfl
    · exact pe_bm0 PySem.F.plainAttrs_list PySem.F.slot_list_pop PySem.F.type_list_pop (mt_bm hu .pop) ho hbase hline
    · exact pe_bm0 PySem.F.plainAttrs_list PySem.F.slot_list_clear PySem.F.type_list_clear (mt_bm hu .clear) ho hbase hline
  refine g.imp fun σ H Q ⟨Φ, ρ, S, M, x, h⟩ => ⟨Φ, ρ, S, M, x, ?_⟩
  refine Post.bind h fun r1 S1 v H1 M1 s1 x1 rx h1 => ?_
  obtain ⟨ok, h1⟩ := Post.ifP (Post.rbR h1 s1)
  refine ⟨tyV_bm x1.hr rx ok nd, ?_⟩
  obtain ⟨y, S3, e, q⟩ := Post.pair h1
  exact bmR_ok x1 e rx .nil q nd
/-! ### methods of dicts -/
theorem dOk {K : PySem.W.Frag} {M : List Addr} {H Hx : Hp} {S : Sto} {x : R} {v : V} (a : HR A K M H S) (rx : RR A K M H Hx x v) (e : ((dkOf S x).isSome || (dtOf S x).isSome) = true) : ∃ p, v = .ref p ∧ IsD H p := by
  cases e1 : dkOf S x with
  | some kvs =>
    obtain ⟨p, ws, rfl, h, _⟩ := dk_ok a rx e1
    exact ⟨p, rfl, .inl ⟨ws, h⟩⟩
  | none =>
    rw [e1] at e
    cases e2 : dtOf S x with
    | some kvs =>
      obtain ⟨p, ws, rfl, h, _⟩ := dt_ok a rx e2
      exact ⟨p, rfl, .inr ⟨ws, h⟩⟩
    | none => rw [e2] at e; cases e
/-- a dict that may be asked isn't of the top -/
theorem dget_of {K : PySem.W.Frag} {M : List Addr} {H Hx Hy : Hp} {S : Sto} {x : R} {d : D} {p : Addr} {u : V} {o : Option D} (a : HR A K M H S) (ok : ((dkOf S x).isSome || (dtOf S x).isSome) = true) (e : dgR S x (.v d) = some o) (rx : RR A K M H Hx x (.ref p)) (ry : RD A K M H d u) :
    ∃ w, DGet H p u w ∧ ((o = none ∧ w = none) ∨ ∃ d z, o = some d ∧ w = some z ∧ RD A K M H d z) := by
  unfold dgR at e
  split at e
  · cases ok
  · split at e
    · next kvs e1 =>
      obtain ⟨k, e2, rfl⟩ := mapO e
      obtain ⟨p', ws, hp', hp, r⟩ := dk_ok a rx e1
      cases hp'
      have hk := keyD_ok e2 ry
      subst hk
      refine ⟨valV ws k, .inl ⟨ws, k, hp, rfl, rfl⟩, ?_⟩
      rcases r.get (k := k) with ⟨g1, g2⟩ | ⟨d', z, g1, g2, g3⟩
      · exact .inl ⟨g1, g2⟩
      · exact .inr ⟨d', z, g1, g2, g3⟩
    · split at e
      · next kvs e1 =>
        split at e
        · next ds hd =>
          cases hd
          obtain ⟨k, e2, rfl⟩ := mapO e
          obtain ⟨p', ws, hp', hp, r⟩ := dt_ok a rx e1
          cases hp'
          cases ry with
          | tup hb rs =>
            have hk := keyDs_ok e2 rs
            subst hk
            refine ⟨valV ws k, .inr ⟨ws, k, _, hp, rfl, hb, rfl⟩, ?_⟩
            rcases r.get (k := k) with ⟨g1, g2⟩ | ⟨d', z, g1, g2, g3⟩
            · exact .inl ⟨g1, g2⟩
            · exact .inr ⟨d', z, g1, g2, g3⟩
        · cases e
      · cases e
/-! ### calls of defs -/
/-- what a call of a def promises -/
def SPf (A : Adr) (K : PySem.W.Frag) (rc : Nat → List D → Sto → O R) (f : Nat) : Sp := fun vs H Q E => ∃ F ds S M, HR ((A.b false).w F) K M H S ∧ RDs ((A.b false).w F) K M H ds vs ∧ (∀ a ∈ F, ∃ o, H a = some o) ∧ match rc f ds S with
  | .ok r S' => ∀ v H' M', Stp K M H M' H' → HR ((A.b false).w F) K M' H' S' → RR ((A.b false).w F) K M' H' H r v → Q v H'
  | .ex k S' => ∀ H' M', Stp K M H M' H' → HR ((A.b false).w F) K M' H' S' → E (.ref (A.xc k)) none H'
  | .no => False
theorem RR.bw {K : PySem.W.Frag} {M : List Addr} {H H0 : Hp} {b : Bool} {r : R} {v : V} (h : RR A K M H H0 r v) : RR (A.b b) K M H H0 r v := by
  cases r with
  | v d => exact RD.sub (A := A) (fun _ h => h) h
  | l ds =>
    obtain ⟨a, vs, e, n0, n, f, ha, q⟩ := h
    exact ⟨a, vs, e, n0, n, f, ha, RDs.sub (A := A.w (a :: A.F)) (fun _ h => h) q⟩
  | d ds =>
    obtain ⟨a, vs, e, n0, n, f, ha, q⟩ := h
    exact ⟨a, vs, e, n0, n, f, ha, RKs.chg (A := A) (fun _ _ r => RD.sub (A := A) (fun _ h => h) r) q⟩
  | t ds =>
    obtain ⟨a, vs, e, n0, n, ha, q⟩ := h
    exact ⟨a, vs, e, n0, n, ha, RKs.chg (A := A) (fun _ _ r => RD.sub (A := A) (fun _ h => h) r) q⟩
theorem sp_ok {K : PySem.W.Frag} {σ : St} {ρ : Loc} {M Φ : List Addr} {H : Hp} {S : Sto} {ds : List D} {vs : List V} {f : Nat} {Q : VK} (x : At (A.w Φ) K σ H ρ S M) (r : RDs (A.w Φ) K M H ds vs) (h : Post (A.w Φ) K W (RRl (A.w Φ) K) σ ρ M H (rc f ds S) Q) : SPf A K rc f vs H Q (WE W σ) := by
  refine ⟨Φ, ds, S, M, HR.free (A := A.w Φ) x.hr, RDs.sub (A := A.w Φ) (fun _ h => h) r, x.ff, ?_⟩
  generalize rc f ds S = o at h
  cases o with
  | ok r S' => exact fun v H' M' s hr rr => h v H' M' s (x.mono s (HR.free (A := (A.b false).w Φ) hr)) (RR.bw (A := (A.b false).w Φ) (b := A.bw) rr)
  | ex k S' => exact fun H' M' s hr => h H' M' s (x.mono s (HR.free (A := (A.b false).w Φ) hr))
  | no => exact h
section
variable {k : Nat} {fd : FuncData} {ps : List Str} {f : Nat} {x : Str} {p : Pos}
theorem se_call (F : FnOk X.prog X.w X.K X.mg X.base (L2.CX X.prog X.w) k (A.fn f) fd ps (SPf A X.K rc f)) (hr : Room k X.A) (hg : Gl X x) (hm : X.mg x = some (.ref (A.fn f))) (hk : PySem.W.keepIn X.K (.ref (A.fn f)) = true) (hb : Binds X.K fd ps []) (tk : Takes X W)
    (ha : PA X (e :: es) (tEs P rc A X.K W ces)) (hdb : (x == ("__debug__" : Str)) = false) (he : starEach (e :: es) X.env = (false, eval e X.env) :: starEach es X.env) (hpl : (backTo pos (starEach es X.env)).any (·.1) = false) :
    PE X (.Call (.Name x p) (e :: es) [] pos) (tE P rc A X.K W (.call f ces)) := by
  refine (pe_callS F hr hg hm hk hb (fun σ => passAt tk σ) ha hdb he hpl).imp fun σ H Q ⟨Φ, ρ, S, M, x, h⟩ => ⟨Φ, ρ, S, M, x, ?_⟩
  exact Post.bind h fun ds S1 vs H1 M1 s1 x1 rx h1 => sp_ok x1 rx (Post.rbR h1 s1)
theorem se_call0 (F : FnOk X.prog X.w X.K X.mg X.base (L2.CX X.prog X.w) k (A.fn f) fd ps (SPf A X.K rc f)) (hr : Room k X.A) (hg : Gl X x) (hm : X.mg x = some (.ref (A.fn f))) (hk : PySem.W.keepIn X.K (.ref (A.fn f)) = true) (hb : Binds X.K fd ps []) (tk : Takes X W)
    (hdb : (x == ("__debug__" : Str)) = false) : PE X (.Call (.Name x p) [] [] pos) (tE P rc A X.K W (.call f .nil)) := by
  refine PE.imp (t := fun σ H Q => SPf A X.K rc f [] H Q (WE W σ)) ⟨fun pins s σ H Q I h => ?_⟩ fun σ H Q ⟨Φ, ρ, S, M, x, h⟩ => sp_ok x .nil h
  refine wpAny_Call_Name_kw (ld_glob I hg hm ?_ hdb)
  exact PySem.W.callWith_K0 I.kIn hk (run_fnS (us := []) F hr hb (passAt tk σ) I .nil h)
end
end
end Pl
/-! The readings of what loops walk, of targets, of comprehensions. -/
namespace L2
open PySem PySem.Spec
theorem PI.or {X : Cx} {tg e : Expr} {t t' : TI} (h : PI X tg e t) (h' : PI X tg e t') : PI X tg e (fun σ H R => t σ H R ∨ t' σ H R) := ⟨fun pins s σ H Q I q => q.elim (h.run pins s σ H Q I) (h'.run pins s σ H Q I)⟩
theorem PG.or {X : Cx} {tg : Expr} {t t' : TG} (h : PG X tg t) (h' : PG X tg t') : PG X tg (fun v σ H R => t v σ H R ∨ t' v σ H R) := ⟨fun pins s σ H v u Q I r q => q.elim (h.run pins s σ H v u Q I r) (h'.run pins s σ H v u Q I r)⟩
end L2
namespace Pl
open PySem PySem.Spec
open PyProof.Rows hiding St
open L2
/-- what is walked gives the items, one by one -/
structure Serve (A : Adr) (K : PySem.W.Frag) (Ps : List Addr → List Addr → Hp → Prop) (J : L2.It) (ks : List (Nat × Ob)) (items : List D) : Prop where
  keep : ∀ (F M : List Addr) (H : Hp) (F' M' : List Addr) (H' : Hp), Ps F M H → StpS K F M H F' M' H' → Ps F' M' H'
  go : ∀ (F : List Addr) (i : Nat) (d : D) (S : Sto) (M : List Addr) (H : Hp), HR (A.w F) K M H S → Ps F M H → Kept ks S → items[i]? = some d → J.go i H ∧ ∀ x H', J.yld i H x H' → Stp K M H M H' ∧ HR (A.w F) K M H' S ∧ RD (A.w F) K M H' d x
  stop : ∀ (F : List Addr) (S : Sto) (M : List Addr) (H : Hp), HR (A.w F) K M H S → Ps F M H → Kept ks S → J.stop items.length H
/-- a list that is walked -/
structure LSrv (A : Adr) (K : PySem.W.Frag) (Ps : List Addr → List Addr → Hp → Prop) (a : Addr) (ks : List (Nat × Ob)) (items : List D) : Prop where
  keep : ∀ (F M : List Addr) (H : Hp) (F' M' : List Addr) (H' : Hp), Ps F M H → StpS K F M H F' M' H' → Ps F' M' H'
  at_ : ∀ (F : List Addr) (S : Sto) (M : List Addr) (H : Hp), HR (A.w F) K M H S → Ps F M H → Kept ks S → ∃ vs, SqL K H a vs ∧ RDs (A.w F) K M H items vs
section
variable {A : Adr} {K : PySem.W.Frag} {Ps : List Addr → List Addr → Hp → Prop} {ks : List (Nat × Ob)} {items : List D} {a : Addr}
theorem LSrv.serve (L : LSrv A K Ps a ks items) : Serve A K Ps (Itl K a) ks items where
  keep := L.keep
  go := fun F i d S M H hr p k e => by
    obtain ⟨vs, h1, r⟩ := L.at_ F S M H hr p k
    obtain ⟨v, e1, rd⟩ := r.get e
    refine ⟨⟨vs, v, h1, e1⟩, fun x H' y => ?_⟩
    obtain ⟨rfl, y⟩ := y
    have e2 := y vs h1
    rw [e1] at e2
    cases e2
    exact ⟨.refl, hr, rd⟩
  stop := fun F S M H hr p k => by
    obtain ⟨vs, h1, r⟩ := L.at_ F S M H hr p k
    exact ⟨vs, h1, by rw [r.length]; exact Nat.le_refl _⟩
theorem enumD_get : ∀ (ds : List D) (k i : Nat) (d : D), (enumD k ds)[i]? = some d → ∃ e, ds[i]? = some e ∧ d = .tup [.int ((k + i : Nat) : Int), e]
  | [], _, _, _, h => by simp [enumD] at h
  | x :: ds, k, 0, d, h => by
    simp [enumD] at h
    exact ⟨x, rfl, by rw [← h]; simp⟩
  | x :: ds, k, i + 1, d, h => by
    simp only [enumD, List.getElem?_cons_succ] at h
    obtain ⟨e, e1, e2⟩ := enumD_get ds (k + 1) i d h
    refine ⟨e, by simpa using e1, ?_⟩
    rw [e2]
    have e3 : k + 1 + i = k + (i + 1) := by omega
    rw [e3]
theorem enumD_len : ∀ (ds : List D) (k : Nat), (enumD k ds).length = ds.length
  | [], _ => rfl
  | x :: ds, k => by simp [enumD, enumD_len ds]
theorem LSrv.enum (L : LSrv A K Ps a ks items) : Serve A K Ps (Ite K a) ks (enumD 0 items) where
  keep := L.keep
  go := fun F i d S M H hr p k e => by
    obtain ⟨vs, h1, r⟩ := L.at_ F S M H hr p k
    obtain ⟨d', e0, rfl⟩ := enumD_get _ _ _ _ e
    obtain ⟨v, e1, rd⟩ := r.get e0
    refine ⟨⟨vs, v, h1, e1⟩, fun x H' y => ?_⟩
    obtain ⟨T, z, rfl, n, rfl, y⟩ := y
    have e2 := y vs h1
    rw [e1] at e2
    cases e2
    refine ⟨.new n, hr.new n, RD.tup upd_same ?_⟩
    rw [Nat.zero_add]
    exact .cons (.int _) (.cons (rd.mono (.new n)) .nil)
  stop := fun F S M H hr p k => by
    obtain ⟨vs, h1, r⟩ := L.at_ F S M H hr p k
    exact ⟨vs, h1, by rw [enumD_len, r.length]; exact Nat.le_refl _⟩
theorem serve_tup {vs : List V} : Serve A K (fun F M H => H a = some (.tup vs) ∧ RDs (A.w F) K M H items vs) (Itt K a) [] items where
  keep := fun F M H F' M' H' p s => ⟨s.tup _ _ p.1, RDs.monoS (A := A.w F) s p.2⟩
  go := fun F i d S M H hr p k e => by
    obtain ⟨h1, r⟩ := p
    obtain ⟨v, e1, rd⟩ := r.get e
    refine ⟨⟨vs, v, .of h1, e1⟩, fun x H' y => ?_⟩
    obtain ⟨rfl, y⟩ := y
    have e2 := y vs (.of h1)
    rw [e1] at e2
    cases e2
    exact ⟨.refl, hr, rd⟩
  stop := fun F S M H hr p k => ⟨vs, .of p.1, by rw [p.2.length]; exact Nat.le_refl _⟩
theorem serve_str {z : Str} : Serve A K (fun _ _ _ => True) (Its z) [] (z.cps.toList.map fun c => .str ⟨#[c]⟩) where
  keep := fun F M H F' M' H' p s => trivial
  go := fun F i d S M H hr p k e => by
    rw [List.getElem?_map] at e
    cases e1 : z.cps.toList[i]? with
    | none => rw [e1] at e; cases e
    | some c =>
      rw [e1] at e
      cases e
      have e2 : z.cps[i]? = some c := by rw [← e1, Array.getElem?_toList]
      refine ⟨(Array.getElem?_eq_some_iff.mp e2).1, fun x H' y => ?_⟩
      obtain ⟨rfl, c', e3, rfl⟩ := y
      rw [e2] at e3
      cases e3
      exact ⟨.refl, hr, .str _⟩
  stop := fun F S M H hr p k => by
    show z.cps.size ≤ _
    simp
theorem serve_rng {lo : Int} {n : Nat} : Serve A K (fun _ _ _ => True) (Itr lo n) [] ((List.range n).map fun (k : Nat) => D.int (lo + (k : Int))) where
  keep := fun F M H F' M' H' p s => trivial
  go := fun F i d S M H hr p k e => by
    rw [List.getElem?_map] at e
    cases e1 : (List.range n)[i]? with
    | none => rw [e1] at e; cases e
    | some c =>
      rw [e1] at e
      cases e
      obtain ⟨h1, h2⟩ := List.getElem?_eq_some_iff.mp e1
      rw [List.getElem_range] at h2
      subst h2
      rw [List.length_range] at h1
      refine ⟨h1, fun x H' y => ?_⟩
      obtain ⟨rfl, rfl⟩ := y
      exact ⟨.refl, hr, .int _⟩
  stop := fun F S M H hr p k => by
    show n ≤ _
    simp
/-- a list of any kind, walked -/
theorem kD_ok (k : Key) {F : List Addr} {M : List Addr} {H : Hp} : RD (A.w F) K M H (kD k) (kV k) := by
  cases k with
  | inl i => exact .int i
  | inr x => exact .str x
/-- the keys of a locked dict -/
theorem serve_keys {i : Nat} {od : Obj} {kvs : List (Key × D)} {ws : List (Key × V)} : Serve A K (fun F M H => M[i]? = some a ∧ H a = some (.frz od (.dK ws))) (Itk a od ws) [(i, .fz kvs)] (kvs.map fun p => kD p.1) where
  keep := fun F M H F' M' H' p s => ⟨s.at_ p.1, s.frz _ _ _ p.2⟩
  go := fun F j d S M H hr p k e => by
    obtain ⟨p1, p2⟩ := p
    have k1 := k (i, .fz kvs) (by simp)
    obtain ⟨_, od', ws', h1, r⟩ := hr.at_ k1 p1
    rw [p2] at h1
    cases h1
    rw [List.getElem?_map] at e
    cases e1 : kvs[j]? with
    | none => rw [e1] at e; cases e
    | some kv =>
      rw [e1] at e
      cases e
      have ek : (ws.map (·.1))[j]? = some kv.1 := by
        rw [← r.keys, List.getElem?_map, e1]
        rfl
      have lt : j < ws.length := by
        have := (List.getElem?_eq_some_iff.mp e1).1
        rw [r.len] at this
        exact this
      refine ⟨⟨p2, lt⟩, fun x H' y => ?_⟩
      obtain ⟨rfl, k2, v2, e2, rfl⟩ := y
      rw [List.getElem?_map, e2] at ek
      cases ek
      exact ⟨.refl, hr, kD_ok _⟩
  stop := fun F S M H hr p k => by
    obtain ⟨p1, p2⟩ := p
    have k1 := k (i, .fz kvs) (by simp)
    obtain ⟨_, od', ws', h1, r⟩ := hr.at_ k1 p1
    rw [p2] at h1
    cases h1
    exact ⟨p2, by rw [List.length_map, r.len]; exact Nat.le_refl _⟩
theorem lsrv_of {M : List Addr} {H H0 : Hp} {S : Sto} {r : R} {v : V} {ds : List D} {sr : Src} {F : List Addr} (x : HR (A.w F) K M H S) (h : RR (A.w F) K M H H0 r v) (e : lsOf S r = some ds) (es : srcOf S r = some sr) :
    ∃ a Ps, v = .ref a ∧ LSrv A K Ps a sr.keep sr.items ∧ Ps F M H ∧ Kept sr.keep S ∧ sr.items = ds ∧ sr.fx = false := by
  cases r with
  | l es =>
    cases e
    cases es
    obtain ⟨a, vs, rfl, _, n, f, ha, q⟩ := h
    exact ⟨a, fun F M H => LV (A.w F) K M H a vs ∧ RDs (A.w F) K M H ds vs, rfl, ⟨fun F M H F' M' H' p s => ⟨Rd.keepS s p.1.1 p.1.2.1 p.1.2.2, RDs.monoS (A := A.w F) s p.2⟩, fun F S M H hr p k => ⟨vs, p.1.sq, p.2⟩⟩, ⟨⟨.inl ha, n, f⟩, RDs.tl (A := A.w F) q⟩, by intro z hz; simp at hz, rfl, rfl⟩
  | d _ => cases e
  | t _ => cases e
  | v d =>
    cases d with
    | ref i =>
      cases h with
      | @ref i a hi =>
        simp only [srcOf] at es
        simp only [lsOf] at e
        cases q : S[i]? with
        | none => rw [q] at es; cases es
        | some o =>
          rw [q] at es e
          cases o with
          | lst zs =>
            cases es
            cases e
            refine ⟨a, fun F M H => M[i]? = some a, rfl, ⟨fun F M H F' M' H' p s => s.at_ p, fun F S M H hr p k => ?_⟩, hi, by intro z hz; rw [List.mem_singleton] at hz; subst hz; exact q, rfl, rfl⟩
            have k1 := k (i, .lst ds) (by simp)
            obtain ⟨_, vs, h1, r⟩ := hr.at_ k1 p
            exact ⟨vs, .of h1, r⟩
          | fz _ => cases e
          | _ => cases es
    | lst zs =>
      cases e
      cases es
      cases h with
      | @lst a vs _ hc r => exact ⟨a, fun F M H => LV (A.w F) K M H a vs ∧ RDs (A.w F) K M H ds vs, rfl, ⟨fun F M H F' M' H' p s => ⟨Rd.keepS s p.1.1 p.1.2.1 p.1.2.2, RDs.monoS (A := A.w F) s p.2⟩, fun F S M H hr p k => ⟨vs, p.1.sq, p.2⟩⟩, ⟨hc, r⟩, by intro z hz; simp at hz, rfl, rfl⟩
    | lsk zs =>
      cases e
      cases es
      cases h with
      | @lsk a vs _ hc r => exact ⟨a, fun F M H => RDs (A.w F) K M H ds vs, rfl, ⟨fun F M H F' M' H' p s => RDs.monoS (A := A.w F) s p, fun F S M H hr p k => ⟨vs, .inr hc, p⟩⟩, r, by intro z hz; simp at hz, rfl, rfl⟩
    | _ => cases e
def RIt (A : Adr) (K : PySem.W.Frag) : Rel Src L2.It := fun M H _ sr J => ∃ Ps, Serve A K Ps J sr.keep sr.items ∧ Ps A.F M H ∧ (sr.fx = true → ∀ F M H, Ps F M H)
theorem based_It : Based K (RIt A K) := fun _ _ _ _ _ _ _ _ _ h => h
end
def tIt (P : Pg) (rc : Nat → List D → Sto → O R) (A : Adr) (K : PySem.W.Frag) (W : WX) (c : It) : TI := fun σ H Q => ∃ Φ ρ S M, At (A.w Φ) K σ H ρ S M ∧ Post (A.w Φ) K W (RIt (A.w Φ) K) σ ρ M H (evIt P rc c ρ S) Q
section
variable {P : Pg} {rc : Nat → List D → Sto → O R} {A : Adr} {W : WX} {X : Cx} {pos : Pos} {a b c e tg : Expr} {ca cb cc : E}
theorem si_e (ha : PE X a (tE P rc A X.K W ca)) : PI X tg a (tIt P rc A X.K W (.e ca)) := by
  refine PI.imp ((pi_list ha).or ((pi_tup ha).or ((pi_str ha).or (pi_keys ha)))) fun σ H Q ⟨Φ, ρ, S, M, x, h⟩ => ?_
  simp only [evIt] at h
  cases eo : evE P rc ca ρ S with
  | no => rw [eo] at h; exact h.elim
  | ex k S' =>
    rw [eo] at h
    refine .inl ⟨Φ, ρ, S, M, x, ?_⟩
    rw [eo]
    exact h
  | ok r S' =>
    rw [eo] at h
    cases es : srcOf S' r with
    | none =>
      exfalso
      have h : Post (A.w Φ) X.K W (RIt (A.w Φ) X.K) σ ρ M H (O.of S' (srcOf S' r)) Q := h
      rw [es] at h
      exact h
    | some sr =>
      have h : Post (A.w Φ) X.K W (RIt (A.w Φ) X.K) σ ρ M H (O.of S' (srcOf S' r)) Q := h
      rw [es] at h
      cases el : lsOf S' r with
      | some ds =>
        refine .inl ⟨Φ, ρ, S, M, x, ?_⟩
        rw [eo]
        intro v H' M' s' x' rr
        obtain ⟨p, Ps, rfl, L, hp, k, _, fx⟩ := lsrv_of (A := A.w Φ) (F := Φ) x'.hr rr el es
        obtain ⟨vs, h1, r1⟩ := L.at_ _ S' M' H' x'.hr hp k
        exact ⟨p, rfl, ⟨vs, h1⟩, h _ H' M' s' x' ⟨Ps, L.serve, hp, fun z => by rw [fx] at z; cases z⟩⟩
      | none =>
        cases r with
        | l ds => cases el
        | d ds => cases es
        | t ds => cases es
        | v d =>
          cases d with
          | tup ds =>
            cases es
            refine .inr (.inl ⟨Φ, ρ, S, M, x, ?_⟩)
            rw [eo]
            intro v H' M' s' x' rr
            cases rr with
            | @tup a vs _ hq r => exact ⟨a, rfl, ⟨vs, .of hq⟩, h _ H' M' s' x' ⟨_, serve_tup, ⟨hq, r⟩, fun z => by cases z⟩⟩
          | str z =>
            cases es
            refine .inr (.inr (.inl ⟨Φ, ρ, S, M, x, ?_⟩))
            rw [eo]
            intro v H' M' s' x' rr
            cases rr
            exact ⟨z, rfl, h _ H' M' s' x' ⟨_, serve_str, trivial, fun _ _ _ _ => trivial⟩⟩
          | ref i =>
            simp only [srcOf] at es
            simp only [lsOf] at el
            cases q : S'[i]? with
            | none => rw [q] at es; cases es
            | some o =>
              rw [q] at es el
              cases o with
              | lst ds => cases el
              | fz kvs =>
                cases es
                refine .inr (.inr (.inr ⟨Φ, ρ, S, M, x, ?_⟩))
                rw [eo]
                intro v H' M' s' x' rr
                cases rr with
                | @ref i a hi =>
                  obtain ⟨_, od, ws, h1, r1⟩ := x'.hr.at_ q hi
                  exact ⟨a, od, rfl, .inl ⟨ws, h1, h _ H' M' s' x' ⟨_, serve_keys, ⟨hi, h1⟩, fun z => by cases z⟩⟩⟩
              | _ => cases es
          | lst zs => cases el
          | lsk zs => cases el
          | _ => cases es
theorem si_rg1 {p : Pos} (hg : Gl X "range") (hm : X.mg "range" = none) (ha : PE X a (tE P rc A X.K W ca)) (hs : starEach [a] X.env = (false, eval a X.env) :: starEach [] X.env) : PI X tg (.Call (.Name "range" p) [a] [] pos) (tIt P rc A X.K W (.rg1 ca)) := by
  refine (pi_range1 hg hm (pa_cons ha pa_nil hs) hs).imp fun σ H Q ⟨Φ, ρ, S, M, x, h⟩ => ⟨Φ, ρ, S, M, x, ?_⟩
  refine Post.bind h fun r S1 v H1 M1 s1 x1 rx h1 => ?_
  cases e : intR r with
  | none => rw [e] at h1; exact h1.elim
  | some j =>
    rw [e] at h1
    by_cases hj : -(2 ^ 62) ≤ j ∧ j < 2 ^ 62
    · simp only [if_pos hj] at h1
      refine ⟨j, by rw [intR_ok e rx], hj.1, hj.2, h1 _ H1 M1 s1 x1 ⟨fun _ _ _ => True, ?_, trivial, fun _ _ _ _ => trivial⟩⟩
      have g := serve_rng (A := A.w Φ) (K := X.K) (lo := 0) (n := (j - 0).toNat)
      rw [Int.sub_zero] at g
      unfold rangeD
      rw [Int.sub_zero]
      exact g
    · simp only [if_neg hj] at h1
      exact h1.elim
theorem si_rg2 {p : Pos} (hg : Gl X "range") (hm : X.mg "range" = none) (ha : PE X a (tE P rc A X.K W ca)) (hb : PE X b (tE P rc A X.K W cb)) (hs : starEach [a, b] X.env = (false, eval a X.env) :: starEach [b] X.env) (hs2 : starEach [b] X.env = (false, eval b X.env) :: starEach [] X.env) :
    PI X tg (.Call (.Name "range" p) [a, b] [] pos) (tIt P rc A X.K W (.rg2 ca cb)) := by
  refine (pi_range2 hg hm (pa_cons ha (pa_cons hb pa_nil hs2) hs) (by rw [hs, hs2]; rfl) hs2).imp fun σ H Q ⟨Φ, ρ, S, M, x, h⟩ => ⟨Φ, ρ, S, M, x, ?_⟩
  refine Post.bind h fun r S1 v H1 M1 s1 x1 rx h1 => ⟨Φ, ρ, S1, M1, x1, ?_⟩
  refine Post.bind2 s1 h1 fun r2 S2 u H2 M2 s2 x2 ry h2 => ?_
  cases e : intR r with
  | none => rw [e] at h2; exact h2.elim
  | some i =>
    cases e2 : intR r2 with
    | none => rw [e, e2] at h2; exact h2.elim
    | some j =>
      rw [e, e2] at h2
      by_cases hj : -(2 ^ 62) ≤ i ∧ i < 2 ^ 62 ∧ -(2 ^ 62) ≤ j ∧ j < 2 ^ 62
      · simp only [if_pos hj] at h2
        exact ⟨i, j, by rw [intR_ok e rx, intR_ok e2 ry], hj, h2 _ H2 M2 (s1.trans s2) x2 ⟨_, serve_rng, trivial, fun _ _ _ _ => trivial⟩⟩
      · simp only [if_neg hj] at h2
        exact h2.elim
theorem serve_rgc {A : Adr} {K : PySem.W.Frag} {lo c : Int} {n : Nat} : Serve A K (fun _ _ _ => True) (Itc lo c n) [] ((List.range n).map fun (k : Nat) => D.int (lo + (k : Int) * c)) where
  keep := fun F M H F' M' H' p s => trivial
  go := fun F i d S M H hr p k e => by
    rw [List.getElem?_map] at e
    cases e1 : (List.range n)[i]? with
    | none => rw [e1] at e; cases e
    | some c =>
      rw [e1] at e
      cases e
      obtain ⟨h1, h2⟩ := List.getElem?_eq_some_iff.mp e1
      rw [List.getElem_range] at h2
      subst h2
      rw [List.length_range] at h1
      refine ⟨h1, fun x H' y => ?_⟩
      obtain ⟨rfl, rfl⟩ := y
      exact ⟨.refl, hr, .int _⟩
  stop := fun F S M H hr p k => by
    rw [List.length_map, List.length_range]
    exact Nat.le_refl _
theorem rgC_up {i j c : Int} (h : -(2 ^ 62) ≤ i ∧ i < 2 ^ 62 ∧ -(2 ^ 62) ≤ j ∧ j < 2 ^ 62 ∧ 0 < c ∧ c < 1000) : RgC i j c ((j - i + c - 1) / c).toNat := by
  obtain ⟨h1, h2, h3, h4, h5, h6⟩ := h
  have e0 : Builtin.Range.rangeSize i j c = (((j - i + c - 1) / c).toNat : Int) := by
    unfold Builtin.Range.rangeSize
    rw [if_pos h5]
    split
    · have e1 : (j - i + c - 1) / c = (j - i - 1) / c + 1 := by
        rw [show j - i + c - 1 = j - i - 1 + c by omega, Int.add_ediv_of_dvd_right (Int.dvd_refl c), Int.ediv_self (by omega)]
      have e2 : 0 ≤ (j - i - 1) / c := Int.ediv_nonneg (by omega) (by omega)
      rw [e1]
      omega
    · have e2 : (j - i + c - 1) / c < 1 := Int.ediv_lt_of_lt_mul h5 (by omega)
      omega
  have e3 : Builtin.Range.rangeSize i j c ≤ 2 ^ 63 - 1 ∧ 0 ≤ Builtin.Range.rangeSize i j c := by
    rw [e0]
    refine ⟨?_, by omega⟩
    have e4 : (j - i + c - 1) / c ≤ j - i ∨ (j - i + c - 1) / c ≤ 0 := by
      by_cases h : i < j
      · have e1 : (j - i + c - 1) / c = (j - i - 1) / c + 1 := by
          rw [show j - i + c - 1 = j - i - 1 + c by omega, Int.add_ediv_of_dvd_right (Int.dvd_refl c), Int.ediv_self (by omega)]
        have e2 : (j - i - 1) / c ≤ j - i - 1 := Int.ediv_le_self _ (by omega)
        exact .inl (by omega)
      · exact .inr (by have : (j - i + c - 1) / c < 1 := Int.ediv_lt_of_lt_mul h5 (by omega); omega)
    omega
  refine ⟨by omega, by omega, ?_, e0⟩
  unfold Builtin.Range.small
  generalize Builtin.Range.rangeSize i j c = n at e3
  have e1 : c > 0 := h5
  simp only [Builtin.Range.rangeFitsLong, Bool.and_eq_true, Bool.or_eq_true, decide_eq_true_eq, beq_iff_eq, e1, if_true]
  omega
section
variable {P : Pg} {rc : Nat → List D → Sto → O R} {A : Adr} {W : WX} {X : Cx} {pos : Pos} {a b tg : Expr} {ca cb : E}
theorem si_rg3 {p p2 : Pos} {c : Int} {k : Nat} (hg : Gl X "range") (hm : X.mg "range" = none) (ha : PE X a (tE P rc A X.K W ca)) (hb : PE X b (tE P rc A X.K W cb)) (hs : starEach [a, b, .Constant (.int c) k p2] X.env = (false, eval a X.env) :: starEach [b, .Constant (.int c) k p2] X.env) (hs2 : starEach [b, .Constant (.int c) k p2] X.env = (false, eval b X.env) :: starEach [.Constant (.int c) k p2] X.env) :
    PI X tg (.Call (.Name "range" p) [a, b, .Constant (.int c) k p2] [] pos) (tIt P rc A X.K W (.rg3 ca cb c)) := by
  refine (pi_range3 hg hm (pa_cons ha (pa_cons hb (pa_cons pe_int pa_nil rfl) hs2) hs) hs (by rw [hs2]; rfl)).imp fun σ H Q ⟨Φ, ρ, S, M, x, h⟩ => ⟨Φ, ρ, S, M, x, ?_⟩
  refine Post.bind h fun r S1 v H1 M1 s1 x1 rx h1 => ⟨Φ, ρ, S1, M1, x1, ?_⟩
  refine Post.bind2 s1 h1 fun r2 S2 u H2 M2 s2 x2 ry h2 => ?_
  cases e : intR r with
  | none => rw [e] at h2; exact h2.elim
  | some i =>
    cases e2 : intR r2 with
    | none => rw [e, e2] at h2; exact h2.elim
    | some j =>
      rw [e, e2] at h2
      by_cases hj : -(2 ^ 62) ≤ i ∧ i < 2 ^ 62 ∧ -(2 ^ 62) ≤ j ∧ j < 2 ^ 62 ∧ 0 < c ∧ c < 1000
      · simp only [if_pos hj] at h2
        exact ⟨i, j, c, _, by rw [intR_ok e rx, intR_ok e2 ry], rgC_up hj, h2 _ H2 M2 (s1.trans s2) x2 ⟨_, serve_rgc, trivial, fun _ _ _ _ => trivial⟩⟩
      · simp only [if_neg hj] at h2
        exact h2.elim
end
theorem serve_enumT {K : PySem.W.Frag} {vs : List V} {items : List D} {a : Addr} : Serve A K (fun F M H => H a = some (.tup vs) ∧ RDs (A.w F) K M H items vs) (IteT K a) [] (enumD 0 items) where
  keep := fun F M H F' M' H' p s => ⟨s.tup _ _ p.1, RDs.monoS (A := A.w F) s p.2⟩
  go := fun F i d S M H hr p k e => by
    obtain ⟨h1, r⟩ := p
    obtain ⟨d', e0, rfl⟩ := enumD_get _ _ _ _ e
    obtain ⟨v, e1, rd⟩ := r.get e0
    refine ⟨⟨vs, v, .of h1, e1⟩, fun x H' y => ?_⟩
    obtain ⟨T, z, rfl, n, rfl, y⟩ := y
    have e2 := y vs (.of h1)
    rw [e1] at e2
    cases e2
    refine ⟨.new n, hr.new n, RD.tup upd_same ?_⟩
    rw [Nat.zero_add]
    exact .cons (.int _) (.cons (rd.mono (.new n)) .nil)
  stop := fun F S M H hr p k => ⟨vs, .of p.1, by rw [enumD_len, p.2.length]; exact Nat.le_refl _⟩
theorem si_en {elts : List Expr} {kk} {tpos p : Pos} (hg : Gl X "enumerate") (hm : X.mg "enumerate" = none) (ha : PE X a (tE P rc A X.K W ca)) (hs : starEach [a] X.env = (false, eval a X.env) :: starEach [] X.env) : PI X (.Tuple elts kk tpos) (.Call (.Name "enumerate" p) [a] [] pos) (tIt P rc A X.K W (.en ca)) := by
  refine PI.imp ((pi_enum hg hm (pa_cons ha pa_nil hs) hs).or (pi_enumT hg hm (pa_cons ha pa_nil hs) hs)) fun σ H Q ⟨Φ, ρ, S, M, x, h⟩ => ?_
  simp only [evIt] at h
  cases eo : evE P rc ca ρ S with
  | no => rw [eo] at h; exact h.elim
  | ex k S' =>
    rw [eo] at h
    refine .inl ⟨Φ, ρ, S, M, x, ?_⟩
    rw [eo]
    exact h
  | ok r S' =>
    rw [eo] at h
    have gen : Post (A.w Φ) X.K W (RIt (A.w Φ) X.K) σ ρ M H (match lsOf S' r, srcOf S' r with
      | some _, some sr => .ok ⟨sr.keep, enumD 0 sr.items, false⟩ S'
      | _, _ => .no) Q → iEnum X.K (tCons (tE P rc A X.K W ca) tNil) σ H Q := fun h1 => by
      refine ⟨Φ, ρ, S, M, x, ?_⟩
      rw [eo]
      intro v H1 M1 s1 x1 rx
      cases el : lsOf S' r with
      | none => rw [el] at h1; exact h1.elim
      | some ds =>
        cases e : srcOf S' r with
        | none => rw [el, e] at h1; exact h1.elim
        | some sr =>
          rw [el, e] at h1
          obtain ⟨pa, Ps, rfl, L, hp, k, _, fx⟩ := lsrv_of (A := A.w Φ) (F := Φ) x1.hr rx el e
          obtain ⟨vs, h2, r2⟩ := L.at_ _ S' M1 H1 x1.hr hp k
          exact ⟨pa, vs, rfl, h2, h1 _ H1 M1 s1 x1 ⟨Ps, L.enum, hp, fun z => by cases z⟩⟩
    cases r with
    | l _ => exact .inl (gen h)
    | d _ => exact .inl (gen h)
    | t _ => exact .inl (gen h)
    | v d =>
      cases d with
      | tup ds =>
        refine .inr ⟨Φ, ρ, S, M, x, ?_⟩
        rw [eo]
        intro v H1 M1 s1 x1 rx
        cases rx with
        | @tup a vs _ hq r => exact ⟨a, vs, rfl, .of hq, h _ H1 M1 s1 x1 ⟨_, serve_enumT, ⟨hq, r⟩, fun z => by cases z⟩⟩
      | _ => exact .inl (gen h)
theorem zipD_get : ∀ (ds es : List D) (i : Nat) (d : D), (zipD ds es)[i]? = some d → ∃ e f, ds[i]? = some e ∧ es[i]? = some f ∧ d = .tup [e, f]
  | [], _, _, _, h => by simp [zipD] at h
  | _ :: _, [], _, _, h => by simp [zipD] at h
  | x :: ds, y :: es, 0, d, h => by
    simp [zipD] at h
    exact ⟨x, y, rfl, rfl, h.symm⟩
  | x :: ds, y :: es, i + 1, d, h => by
    simp only [zipD, List.getElem?_cons_succ] at h
    obtain ⟨e, f, e1, e2, e3⟩ := zipD_get ds es i d h
    exact ⟨e, f, by simpa using e1, by simpa using e2, e3⟩
theorem zipD_len : ∀ (ds es : List D), (zipD ds es).length = min ds.length es.length
  | [], _ => by simp [zipD]
  | _ :: _, [] => by simp [zipD]
  | x :: ds, y :: es => by simp [zipD, zipD_len ds es]
end
end Pl
/-! Targets and comprehensions. -/
namespace Pl
open PySem PySem.Spec
open PyProof.Rows hiding St
open L2
/-! ### slots -/
theorem wipe_in {σ : St} {j : Nat} : ∀ {vs : List Nat}, j ∈ vs → j < σ.length → (wipe σ vs)[j]? = some none
  | v :: vs, h, hl => by
    unfold wipe
    by_cases e : v = j
    · subst e
      exact List.getElem?_set_self (by rw [wipe_length]; exact hl)
    · rw [List.getElem?_set_ne e]
      refine wipe_in ?_ hl
      rcases List.mem_cons.mp h with h | h
      · exact absurd h.symm e
      · exact h
theorem wipe_set {σ : St} {i : Nat} {x : Option V} {vs : List Nat} (h : i ∈ vs) : wipe (σ.set i x) vs = wipe σ vs := by
  apply List.ext_getElem?
  intro j
  by_cases hj : j ∈ vs
  · by_cases hl : j < σ.length
    · rw [wipe_in hj hl, wipe_in hj (by rw [List.length_set]; exact hl)]
    · rw [List.getElem?_eq_none (by rw [wipe_length, List.length_set]; omega), List.getElem?_eq_none (by rw [wipe_length]; omega)]
  · rw [wipe_out hj, wipe_out hj, List.getElem?_set_ne fun e => hj (by rw [← e]; exact h)]
theorem wipe_twice {σ : St} {vs : List Nat} : wipe (wipe σ vs) vs = wipe σ vs := by
  apply List.ext_getElem?
  intro j
  by_cases hj : j ∈ vs
  · by_cases hl : j < σ.length
    · rw [wipe_in hj hl, wipe_in hj (by rw [wipe_length]; exact hl)]
    · rw [List.getElem?_eq_none (by rw [wipe_length, wipe_length]; omega), List.getElem?_eq_none (by rw [wipe_length]; omega)]
  · rw [wipe_out hj]
theorem wipeL_length (ρ : Loc) : ∀ vs : List Nat, (wipeL ρ vs).length = ρ.length
  | [] => rfl
  | v :: vs => by unfold wipeL; rw [List.length_set, wipeL_length ρ vs]
theorem wipeL_get {ρ : Loc} {i : Nat} {o : Sl} (ho : o ≠ .un) : ∀ {vs : List Nat} (h : (wipeL ρ vs)[i]? = some o), ρ[i]? = some o ∧ i ∉ vs
  | [], h => ⟨h, by simp⟩
  | v :: vs, h => by
    unfold wipeL at h
    by_cases e : v = i
    · subst e
      rw [List.getElem?_set] at h
      rw [if_pos rfl] at h
      split at h
      · cases h
        exact absurd rfl ho
      · cases h
    · rw [List.getElem?_set_ne e] at h
      obtain ⟨h1, h2⟩ := wipeL_get ho h
      exact ⟨h1, fun m => (List.mem_cons.mp m).elim (fun z => e z.symm) h2⟩
section
variable {A : Adr} {K : PySem.W.Frag} {W : WX} {M M1 : List Addr} {H H0 H1 : Hp} {σ : St} {ρ : Loc} {S : Sto}
theorem SR.wipe {vs : List Nat} (h : SR A K M H σ ρ) : SR A K M H (L2.wipe σ vs) (wipeL ρ vs) := ⟨by rw [wipe_length, wipeL_length]; exact h.len, fun i d e => by
  obtain ⟨e1, hn⟩ := wipeL_get (ho := (by intro z; cases z)) e
  obtain ⟨v, e2, r⟩ := h.at_ i d e1
  exact ⟨v, by rw [wipe_out hn]; exact e2, r⟩, fun b i ds e => by
  obtain ⟨e1, hn⟩ := wipeL_get (ho := (by intro z; cases z)) e
  obtain ⟨a, vs, e2, q⟩ := h.ow b i ds e1
  exact ⟨a, vs, by rw [wipe_out hn]; exact e2, q⟩⟩
def G.ix : G → List Nat
  | .name i => [i]
  | .tup is => is
def gNs : List Nat → TGs
  | [] => gNil
  | i :: is => gCons (gName i) (gNs is)
def tG (K : PySem.W.Frag) : G → TG
  | .name i => gName i
  | .tup is => fun v σ H Q => gTup K is.length (gNs is) v σ H Q ∨ gLst K is.length (gNs is) v σ H Q
theorem setAll_ok {ws : List Nat} : ∀ {is : List Nat} {ds : List D} {ρ ρ' : Loc} {vs : List V} {σ : St} {Q : St → Hp → Prop}, setAll is ds ρ = some ρ' → RDs A K M H ds vs → SR A K M H σ ρ → (∀ i ∈ is, i ∈ ws) →
    (∀ σ', SR A K M H σ' ρ' → wipe σ' ws = wipe σ ws → Q σ' H) → vs.length = is.length ∧ gNs is vs σ H Q
  | [], [], ρ, ρ', vs, σ, Q, e, r, sr, hw, q => by
    cases e
    cases r
    exact ⟨rfl, rfl, q σ sr rfl⟩
  | i :: is, d :: ds, ρ, ρ', vs, σ, Q, e, r, sr, hw, q => by
    cases r with
    | @cons _ v _ vs h r =>
      have g := setAll_ok (ws := ws) (is := is) (ds := ds) (ρ := ρ.set i (.v d)) (ρ' := ρ') (vs := vs) (σ := σ.set i (some v)) (Q := Q) e r (sr.set i h) (fun j hj => hw j (List.mem_cons_of_mem _ hj)) fun σ' s' w' => q σ' s' (by rw [w', wipe_set (hw i List.mem_cons_self)])
      exact ⟨by rw [List.length_cons, List.length_cons, g.1], v, vs, rfl, g.2⟩
  | [], d :: ds, _, _, _, _, _, e, _, _, _, _ => by cases e
  | i :: is, [], _, _, _, _, _, e, _, _, _, _ => by cases e
theorem setG_sr {g : G} {x : R} {v : V} {ρ' : Loc} {H0 : Hp} {ws : List Nat} {Q : St → Hp → Prop} (hr : HR A K M H S) (sr : SR A K M H σ ρ) (e : setG S g x ρ = some ρ') (r : RR A K M H H0 x v) (hw : ∀ i ∈ g.ix, i ∈ ws)
    (q : ∀ σ', SR A K M H σ' ρ' → wipe σ' ws = wipe σ ws → Q σ' H) : tG K g v σ H Q := by
  cases g with
  | name i =>
    obtain ⟨d, e1, rfl⟩ := mapO e
    exact q _ (sr.set i (toD_ok e1 r)) (wipe_set (hw i (by simp [G.ix])))
  | tup is =>
    simp only [setG] at e
    cases e1 : sqOf S x with
    | none => rw [e1] at e; cases e
    | some ds =>
      rw [e1] at e
      obtain ⟨p, vs, rfl, hq, rs⟩ := sq_ok hr r e1
      have g := setAll_ok (ws := ws) (Q := Q) e rs sr hw fun σ' s' w' => q σ' s' w'
      rcases hq with hq | hq
      · exact .inr ⟨p, vs, rfl, hq, g.1, g.2⟩
      · exact .inl ⟨p, vs, rfl, hq, g.1, g.2⟩
theorem setG_ok {g : G} {x : R} {v : V} {ρ' : Loc} {H0 : Hp} {ws : List Nat} {Q : St → Hp → Prop} (a : At A K σ H ρ S M) (e : setG S g x ρ = some ρ') (r : RR A K M H H0 x v) (hw : ∀ i ∈ g.ix, i ∈ ws)
    (q : ∀ σ', At A K σ' H ρ' S M → wipe σ' ws = wipe σ ws → Q σ' H) : tG K g v σ H Q := setG_sr a.hr a.sr e r hw fun σ' s' w' => q σ' ⟨a.hr, s', a.ff⟩ w'
/-! ### the list that a comprehension makes -/
mutual
theorem RD.updD {P : Addr} {ws us : List V} (n : H P = some (.lst ws)) (f : P ∈ A.F) : ∀ {d : D} {v : V}, RD A K M H d v → RD A K M (upd H P (.lst us)) d v
  | _, _, .non => .non
  | _, _, .bl b => .bl b
  | _, _, .int i => .int i
  | _, _, .str x => .str x
  | _, _, .tup h r => .tup (by
      rw [upd_ne fun e => by
        subst e
        rw [n] at h; cases h]
      exact h) (RDs.updD n f r)
  | _, _, .tpk h r => .tpk h (RDs.updD n f r)
  | _, _, .lsk h r => .lsk h (RDs.updD n f r)
  | _, _, .lst h r => .lst ⟨by
      have ne : ∀ {a}, a ∉ A.F → a ≠ P := fun h e => h (by rw [e]; exact f)
      rcases h.1 with q | ⟨o, q⟩
      · exact .inl (by rw [upd_ne (ne h.2.2)]; exact q)
      · exact .inr ⟨o, by rw [upd_ne (ne h.2.2)]; exact q⟩, h.2⟩ (RDs.updD n f r)
  | _, _, .dct h e q nf r => .dct (by
      rcases h with q | ⟨o, q⟩
      · exact .inl (by
          rw [upd_ne fun e => by
            subst e
            rw [n] at q; cases q]
          exact q)
      · exact .inr ⟨o, by
          rw [upd_ne fun e => by
            subst e
            rw [n] at q; cases q]
          exact q⟩) e q nf (RDs.updD n f r)
  | _, _, .ref h => .ref h
  | _, _, .fn f => .fn f
  | _, _, .dck h => .dck h
theorem RDs.updD {P : Addr} {ws us : List V} (n : H P = some (.lst ws)) (f : P ∈ A.F) : ∀ {ds : List D} {vs : List V}, RDs A K M H ds vs → RDs A K M (upd H P (.lst us)) ds vs
  | _, _, .nil => .nil
  | _, _, .cons h r => .cons (RD.updD n f h) (RDs.updD n f r)
end
theorem RKs.updD {κ : Type} {P : Addr} {ws us : List V} (n : H P = some (.lst ws)) (f : P ∈ A.F) : ∀ {ds : List (κ × D)} {vs : List (κ × V)}, RKs A K M H ds vs → RKs A K M (upd H P (.lst us)) ds vs
  | _, _, .nil => .nil
  | _, _, .cons h r => .cons (h.updD n f) (RKs.updD n f r)
theorem OR.updD {P a : Addr} {ws us : List V} {o : Ob} (n : H P = some (.lst ws)) (f : P ∈ A.F) (ne : a ≠ P) (h : OR A K M H a o) : OR A K M (upd H P (.lst us)) a o := by
  cases o with
  | lst ds =>
    obtain ⟨nl, vs, h1, r⟩ := h
    exact ⟨nl, vs, (upd_ne ne).trans h1, r.updD n f⟩
  | dk ds =>
    obtain ⟨nl, vs, h1, r⟩ := h
    exact ⟨nl, vs, (upd_ne ne).trans h1, r.updD n f⟩
  | dt ds =>
    obtain ⟨nl, vs, h1, r⟩ := h
    exact ⟨nl, vs, (upd_ne ne).trans h1, r.updD n f⟩
  | ins c ds =>
    obtain ⟨nl, dx, vs, h1, r⟩ := h
    exact ⟨nl, dx, vs, (upd_ne ne).trans h1, r.updD n f⟩
  | fz ds =>
    obtain ⟨nl, dx, vs, h1, r⟩ := h
    exact ⟨nl, dx, vs, (upd_ne ne).trans h1, r.updD n f⟩
theorem HR.updD {P : Addr} {ws us : List V} (n : H P = some (.lst ws)) (f : P ∈ A.F) (np : P ∉ M) (x : HR A K M H S) : HR A K M (upd H P (.lst us)) S :=
  ⟨x.len, x.nd, fun i o e => by
    obtain ⟨a, e1, q⟩ := x.ob i o e
    exact ⟨a, e1, q.updD n f fun z => np (by rw [← z]; exact List.mem_of_getElem? e1)⟩⟩
theorem SR.updD {P : Addr} {ws us : List V} (n : H P = some (.lst ws)) (f : P ∈ A.F) (x : SR A K M H σ ρ) : SR A K M (upd H P (.lst us)) σ ρ :=
  ⟨x.len, fun i d e => by
    obtain ⟨v, e1, r⟩ := x.at_ i d e
    exact ⟨v, e1, r.updD n f⟩, fun b i ds e => by
    obtain ⟨a, vs, e1, ha, m, nf, r⟩ := x.ow b i ds e
    exact ⟨a, vs, e1, by rw [upd_ne fun z => nf (by rw [z]; exact f)]; exact ha, m, nf, r.updD n f⟩⟩
theorem At.updD {P : Addr} {ws us : List V} (n : H P = some (.lst ws)) (f : P ∈ A.F) (np : P ∉ M) (x : At A K σ H ρ S M) : At A K σ (upd H P (.lst us)) ρ S M :=
  ⟨x.hr.updD n f np, x.sr.updD n f, fun a m => by
    by_cases e : a = P
    · exact ⟨_, by rw [e]; exact upd_same⟩
    · rw [upd_ne e]
      exact x.ff a m⟩
theorem Stp.updD {P : Addr} {ws us : List V} (n : H1 P = some (.lst ws)) (n0 : H P = none) (s : Stp K M H M1 H1) : Stp K M H M1 (upd H1 P (.lst us)) :=
  ⟨s.ext, fun a o h m => by
    rw [upd_ne (ne_of_none h n0)]
    exact s.keep a o h m, fun a h => by
    by_cases e : a = P
    · rw [e]
      exact n0
    · rw [upd_ne e] at h
      exact s.grow a h, fun a vs h => by
    rw [upd_ne (ne_of_none h n0)]
    exact s.tup a vs h, fun a od u h => by
    rw [upd_ne (ne_of_none h n0)]
    exact s.frz a od u h⟩
end
theorem lcL_ex {ks : List (Nat × Ob)} {f : D → Sto → O (Option D)} : ∀ (xs acc : List D) (S : Sto) (k : Nat) (S' : Sto), lcL ks f xs acc S ≠ .ex k S'
  | [], acc, S, k, S', h => by
    unfold lcL at h
    split at h <;> cases h
  | x :: xs, acc, S, k, S', h => by
    unfold lcL at h
    split at h
    · split at h
      · exact lcL_ex _ _ _ _ _ h
      · split at h
        · exact lcL_ex _ _ _ _ _ h
        · cases h
      · cases h
    · cases h
end Pl
/-! Comprehensions. -/
namespace Pl
open PySem PySem.Spec
open PyProof.Rows hiding St
open L2
abbrev W0 : WX := fun _ _ _ _ => False
section
variable {P : Pg} {rc : Nat → List D → Sto → O R} {A : Adr} {K : PySem.W.Frag} {W : WX}
/-- the block's run read by the block's readings -/
def BlkR (A : Adr) (K : PySem.W.Frag) (tt : TT) (te : TE) (F : Loc → Sto → O (Option D)) : Prop :=
  ∀ (Φ : List Addr) (σ : St) (ρ : Loc) (S : Sto) (M : List Addr) (H : Hp) (o : Option D) (S' : Sto) (T : V → Hp → Prop) (N : Hp → Prop), At (A.w Φ) K σ H ρ S M → F ρ S = .ok o S' →
    (∀ d y H4 M4, o = some d → Stp K M H M4 H4 → At (A.w Φ) K σ H4 ρ S' M4 → RD (A.w Φ) K M4 H4 d y → T y H4) → (∀ H4 M4, o = none → Stp K M H M4 H4 → At (A.w Φ) K σ H4 ρ S' M4 → N H4) →
    tt σ H fun b H3 => if b = true then te σ H3 T else N H3
theorem blk_e {ce : E} {ρ : Loc} {S S' : Sto} {o : Option D} {σ : St} {M Φ : List Addr} {H : Hp} {T : V → Hp → Prop} (x : At (A.w Φ) K σ H ρ S M) (e : ((valO (evE P rc ce ρ S)).bind fun x S => .ok (some x) S) = .ok o S')
    (q : ∀ d y H4 M4, o = some d → Stp K M H M4 H4 → At (A.w Φ) K σ H4 ρ S' M4 → RD (A.w Φ) K M4 H4 d y → T y H4) : tE P rc A K W0 ce σ H T := by
  refine ⟨Φ, ρ, S, M, x, ?_⟩
  cases eo : evE P rc ce ρ S with
  | no => rw [eo] at e; cases e
  | ex k S2 => rw [eo] at e; cases e
  | ok r S2 =>
    rw [eo] at e
    intro v H' M' s' x' rr
    cases ed : toD r with
    | none =>
      simp only [valO, O.bind, O.of, ed] at e
      cases e
    | some d =>
      simp only [valO, O.bind, O.of, ed] at e
      cases e
      exact q d v H' M' rfl s' x' (toD_ok ed rr)
theorem blk_lc {ce : E} : BlkR A K tYes (tE P rc A K W0 ce) (fun ρ S => (valO (evE P rc ce ρ S)).bind fun x S => .ok (some x) S) :=
  fun Φ σ ρ S M H o S' T N x e q n => (show (if true = true then tE P rc A K W0 ce σ H T else N H) from by
    rw [if_pos rfl]
    exact blk_e x e q)
theorem blk_lcI {cc ce : E} : BlkR A K (tT P rc A K W0 cc) (tE P rc A K W0 ce) (fun ρ S => (boolO (evE P rc cc ρ S)).bind fun b S => if b = true then (valO (evE P rc ce ρ S)).bind fun x S => .ok (some x) S else .ok none S) :=
  fun Φ σ ρ S M H o S' T N x e q n => by
    refine ⟨Φ, ρ, S, M, x, ?_⟩
    dsimp only at e
    cases eo : boolO (evE P rc cc ρ S) with
    | no => rw [eo] at e; cases e
    | ex k S2 => rw [eo] at e; cases e
    | ok b S2 =>
      rw [eo] at e
      intro b' H' M' s' x' rb
      cases rb
      cases b with
      | true =>
        rw [if_pos rfl]
        exact blk_e x' e fun d y H4 M4 e4 s4 x4 r4 => q d y H4 M4 e4 (s'.trans s4) x4 r4
      | false =>
        cases e
        rw [if_neg (by decide)]
        exact n H' M' rfl s' x'
theorem lc_gen {tt : TT} {te : TE} {F : Loc → Sto → O (Option D)} {g : G} {own : List Nat} {cit : It} {σ : St} {ρ : Loc} {S : Sto} {M Φ : List Addr} {H : Hp} {Q : V → Hp → Prop} (hb : BlkR A K tt te F) (hw : ∀ i ∈ g.ix, i ∈ own) (x : At (A.w Φ) K σ H ρ S M)
    (h : Post (A.w Φ) K W (RRl (A.w Φ) K) σ ρ M H ((evIt P rc cit ρ S).bind fun sr S => (lcL sr.keep (fun d S => match setG S g (.v d) (wipeL ρ own) with
      | some r' => F r' S
      | none => .no) sr.items [] S).bind fun ds S => .ok (.l ds) S) Q) : tLc (tIt P rc A K W cit) (tG K g) tt te own σ H Q := by
  refine ⟨Φ, ρ, S, M, x, ?_⟩
  refine Post.bind h fun sr S1 J H1 M1 s1 x1 ⟨Ps, sv, hp, _⟩ h1 => ?_
  have h1 := Post.rbR h1 s1
  intro L hL
  have fin : ∀ (o : O (List D)), Post (A.w Φ) K W (RRl (A.w Φ) K) σ ρ M1 H1 (o.bind fun ds S => .ok (.l ds) S) Q → (∀ k S', o ≠ .ex k S') → ∃ ds S', o = .ok ds S' ∧ ∀ b H' M', Stp K M1 H1 M' H' → At (A.w Φ) K σ H' ρ S' M' → RR (A.w Φ) K M' H' H1 (.l ds) b → Q b H' := fun o ho ne => by
    cases o with
    | ok ds S' => exact ⟨ds, S', rfl, ho⟩
    | ex k S' => exact absurd rfl (ne k S')
    | no => exact ho.elim
  obtain ⟨ds, Sf, hl, q⟩ := fin _ h1 (lcL_ex _ _ _)
  have nL : L ∉ M1 := x1.nin hL
  have fL : L ∉ Φ := x1.nF hL
  have sub : ∀ a ∈ Φ, a ∈ (A.w (L :: Φ)).F := fun a h => List.mem_cons_of_mem _ h
  have hp : Ps (L :: Φ) M1 H1 := sv.keep _ _ _ _ _ _ hp ⟨⟨[], by simp, fun _ h => by simp at h⟩, fun a o h _ n => ⟨h, fun z => (List.mem_cons.mp z).elim (fun e => by
    subst e
    rw [hL] at h; cases h) n⟩, fun _ h => h, fun _ _ h => h, fun _ _ _ h => h⟩
  have a0 : At (A.w (L :: Φ)) K σ (upd H1 L (.lst [])) ρ S1 M1 := ⟨HR.free (A := A.w Φ) (x1.hr.new hL), (SR.addF (A := A.w Φ) hL x1.sr).mono (.new hL), fun a m => by
    by_cases e : a = L
    · exact ⟨_, by rw [e]; exact upd_same⟩
    · rw [upd_ne e]
      exact x1.ff a ((List.mem_cons.mp m).resolve_left e)⟩
  have mL : L ∈ (A.w (L :: Φ)).F := List.mem_cons_self
  refine ⟨fun i m H => m = sr.items.length - i ∧ i ≤ sr.items.length ∧ ∃ S M acc ws, At (A.w (L :: Φ)) K σ H ρ S M ∧ Stp K M1 H1 M H ∧ H L = some (.lst ws) ∧ L ∉ M ∧ RDs (A.w (L :: Φ)) K M H acc ws ∧
    lcL sr.keep (fun d S => match setG S g (.v d) (wipeL ρ own) with
      | some r' => F r' S
      | none => .no) (sr.items.drop i) acc S = .ok ds Sf, ⟨_, rfl, Nat.zero_le _, S1, M1, [], [], a0, .new hL, upd_same, nL, .nil, hl⟩, ?_⟩
  rintro i m H2 ⟨rfl, hi, S2, M2, acc, ws, x2, s2, e2, n2, r2, l2⟩
  have hp2 := sv.keep _ _ _ _ _ _ hp ⟨s2.ext, fun a o h m n => ⟨s2.keep a o h m, n⟩, s2.grow, s2.tup, s2.frz⟩
  by_cases hlt : i < sr.items.length
  · rw [List.drop_eq_getElem_cons hlt] at l2
    unfold lcL at l2
    split at l2
    · next hk =>
      obtain ⟨hgo, hy⟩ := sv.go _ i sr.items[i] S2 M2 H2 x2.hr hp2 hk (List.getElem?_eq_getElem hlt)
      split at l2
      all_goals first
        | (cases l2; done)
        | skip
      · next S3 eF =>
        refine .inr ⟨hgo, fun H' => ∃ S M acc ws, At (A.w (L :: Φ)) K σ H' ρ S M ∧ Stp K M1 H1 M H' ∧ H' L = some (.lst ws) ∧ L ∉ M ∧ RDs (A.w (L :: Φ)) K M H' acc ws ∧ lcL sr.keep (fun d S => match setG S g (.v d) (wipeL ρ own) with
            | some r' => F r' S
            | none => .no) (sr.items.drop (i + 1)) acc S = .ok ds Sf, fun H' p' => ⟨_, by omega, rfl, by omega, p'⟩, fun xv H3 yl => ?_⟩
        obtain ⟨s3, hr3, rd⟩ := hy xv H3 yl
        have x3 : At (A.w (L :: Φ)) K σ H3 ρ S2 M2 := x2.mono s3 hr3
        split at eF
        · next ρ4 eg =>
          refine setG_ok (A := A.w (L :: Φ)) (M := M2) (S := S2) (ws := own) ⟨x3.hr, x3.sr.wipe, x3.ff⟩ eg (show RR (A.w (L :: Φ)) K M2 H3 H2 (.v sr.items[i]) xv from rd) hw fun σ4 x4 w4 => ⟨by rw [w4, wipe_twice], ?_⟩
          refine hb (L :: Φ) σ4 ρ4 S2 M2 H3 none S3 _ _ x4 eF (fun d y H5 M5 e5 => by cases e5) fun H5 M5 _ s5 x5 => ?_
          have s6 := s3.trans s5
          exact ⟨S3, M5, acc, ws, x2.mono s6 x5.hr, s2.trans s6, s6.keep _ _ e2 n2, s6.nin e2 n2, r2.mono s6, l2⟩
        · cases eF
      · next d S3 eF =>
        split at l2
        · next hz =>
          refine .inr ⟨hgo, fun H' => ∃ S M acc ws, At (A.w (L :: Φ)) K σ H' ρ S M ∧ Stp K M1 H1 M H' ∧ H' L = some (.lst ws) ∧ L ∉ M ∧ RDs (A.w (L :: Φ)) K M H' acc ws ∧ lcL sr.keep (fun d S => match setG S g (.v d) (wipeL ρ own) with
              | some r' => F r' S
              | none => .no) (sr.items.drop (i + 1)) acc S = .ok ds Sf, fun H' p' => ⟨_, by omega, rfl, by omega, p'⟩, fun xv H3 yl => ?_⟩
          obtain ⟨s3, hr3, rd⟩ := hy xv H3 yl
          have x3 : At (A.w (L :: Φ)) K σ H3 ρ S2 M2 := x2.mono s3 hr3
          split at eF
          · next ρ4 eg =>
            refine setG_ok (A := A.w (L :: Φ)) (M := M2) (S := S2) (ws := own) ⟨x3.hr, x3.sr.wipe, x3.ff⟩ eg (show RR (A.w (L :: Φ)) K M2 H3 H2 (.v sr.items[i]) xv from rd) hw fun σ4 x4 w4 => ⟨by rw [w4, wipe_twice], ?_⟩
            refine hb (L :: Φ) σ4 ρ4 S2 M2 H3 (some d) S3 _ _ x4 eF (fun d' y H5 M5 e5 s5 x5 r5 => ?_) (fun H5 M5 e5 => by cases e5)
            cases e5
            have s6 := s3.trans s5
            have e6 := s6.keep _ _ e2 n2
            have n6 := s6.nin e2 n2
            have x6 : At (A.w (L :: Φ)) K σ H5 ρ S3 M5 := x2.mono s6 x5.hr
            refine ⟨ws, e6, by rw [← r2.length]; exact hz, S3, M5, acc ++ [d], ws ++ [y], x6.updD e6 mL n6, Stp.updD e6 hL (s2.trans s6), upd_same, n6, ?_, l2⟩
            exact RDs.updD e6 mL ((r2.mono s6).append (.cons r5 .nil))
          · cases eF
        · cases l2
    · cases l2
  · have e : i = sr.items.length := by omega
    subst e
    rw [List.drop_length] at l2
    unfold lcL at l2
    split at l2
    · next hk =>
      cases l2
      exact .inl ⟨sv.stop _ _ M2 H2 x2.hr hp2 hk, q _ H2 M2 s2 ⟨HR.free (A := A.w (L :: Φ)) x2.hr, SR.sub (A := A.w (L :: Φ)) sub x2.sr, fun a m => x2.ff a (sub a m)⟩ ⟨L, ws, rfl, hL, n2, fL, e2, r2⟩⟩
    · cases l2
end
section
variable {P : Pg} {rc : Nat → List D → Sto → O R} {A : Adr} {W : WX} {X : Cx} {pos : Pos} {elt tg iter c : Expr} {scope : Scope} {own : List (Str × Nat)} {g : G} {cit : It} {ce cc : E}
theorem se_lc (hc : X.calm = true) (hN : X.N.Nodup) (hi : PI X tg iter (tIt P rc A X.K W cit)) (ok : BlkOk X.N X.env.scope scope own) (hw : ∀ i ∈ g.ix, i ∈ own.map (·.2))
    (hg : ∀ (s : Shared) (H : Hp) (C : Addr) (cl : List (Str × Addr)) (fp : List Addr), PG (X.blk s H scope (compEnvC scope cl C X.env) fp) tg (tG X.K g))
    (he : ∀ (s : Shared) (H : Hp) (C : Addr) (cl : List (Str × Addr)) (fp : List Addr), PE (X.blk s H scope (compEnvC scope cl C X.env) fp) elt (tE P rc A X.K W0 ce)) (hs : ∀ x, foldedSetIterable iter X.env x = pure x) :
    PE X (.ListComp elt [⟨tg, iter, [], 0⟩] scope pos) (tE P rc A X.K W (.lc (own.map (·.2)) g cit ce)) :=
  (pe_lc hc hN hi ok hg (fun _ _ _ _ _ => pts_nil) he hs).imp fun σ H Q ⟨Φ, ρ, S, M, x, h⟩ => lc_gen blk_lc hw x h
theorem se_lcI (hc : X.calm = true) (hN : X.N.Nodup) (hi : PI X tg iter (tIt P rc A X.K W cit)) (ok : BlkOk X.N X.env.scope scope own) (hw : ∀ i ∈ g.ix, i ∈ own.map (·.2))
    (hg : ∀ (s : Shared) (H : Hp) (C : Addr) (cl : List (Str × Addr)) (fp : List Addr), PG (X.blk s H scope (compEnvC scope cl C X.env) fp) tg (tG X.K g))
    (ht : ∀ (s : Shared) (H : Hp) (C : Addr) (cl : List (Str × Addr)) (fp : List Addr), PT (X.blk s H scope (compEnvC scope cl C X.env) fp) c (tT P rc A X.K W0 cc))
    (he : ∀ (s : Shared) (H : Hp) (C : Addr) (cl : List (Str × Addr)) (fp : List Addr), PE (X.blk s H scope (compEnvC scope cl C X.env) fp) elt (tE P rc A X.K W0 ce)) (hs : ∀ x, foldedSetIterable iter X.env x = pure x) :
    PE X (.ListComp elt [⟨tg, iter, [c], 0⟩] scope pos) (tE P rc A X.K W (.lcI (own.map (·.2)) g cit cc ce)) :=
  (pe_lc hc hN hi ok hg (fun s H C cl fp => pts_one (ht s H C cl fp)) he hs).imp fun σ H Q ⟨Φ, ρ, S, M, x, h⟩ => lc_gen blk_lcI hw x h
end
/-! ### a dict locked while an expression runs -/
section
variable {A : Adr} {K : PySem.W.Frag} {M : List Addr} {H : Hp} {S : Sto} {σ : St} {ρ : Loc}
mutual
theorem RD.unf {P : Addr} {od : Obj} {ks : List (Key × V)} {u1 : HO} (n : H P = some (.frz od (.dK ks))) (f : P ∈ M) : ∀ {d : D} {v : V}, RD A K M H d v → RD A K M (upd H P u1) d v
  | _, _, .non => .non
  | _, _, .bl b => .bl b
  | _, _, .int i => .int i
  | _, _, .str x => .str x
  | _, _, .tup h r => .tup (by
      rw [upd_ne fun e => by
        subst e
        rw [n] at h; cases h]
      exact h) (RDs.unf n f r)
  | _, _, .tpk h r => .tpk h (RDs.unf n f r)
  | _, _, .lsk h r => .lsk h (RDs.unf n f r)
  | _, _, .lst h r => .lst ⟨by
      have ne : ∀ {a}, a ∉ M → a ≠ P := fun h e => h (by rw [e]; exact f)
      rcases h.1 with q | ⟨o, q⟩
      · exact .inl (by rw [upd_ne (ne h.2.1)]; exact q)
      · exact .inr ⟨o, by rw [upd_ne (ne h.2.1)]; exact q⟩, h.2⟩ (RDs.unf n f r)
  | _, _, .dct h e q nf r => .dct (by
      rcases h with h | ⟨o, h⟩
      · exact .inl (by
          rw [upd_ne fun z => q (by rw [z]; exact f)]
          exact h)
      · exact .inr ⟨o, by
          rw [upd_ne fun z => q (by rw [z]; exact f)]
          exact h⟩) e q nf (RDs.unf n f r)
  | _, _, .ref h => .ref h
  | _, _, .fn f => .fn f
  | _, _, .dck h => .dck h
theorem RDs.unf {P : Addr} {od : Obj} {ks : List (Key × V)} {u1 : HO} (n : H P = some (.frz od (.dK ks))) (f : P ∈ M) : ∀ {ds : List D} {vs : List V}, RDs A K M H ds vs → RDs A K M (upd H P u1) ds vs
  | _, _, .nil => .nil
  | _, _, .cons h r => .cons (RD.unf n f h) (RDs.unf n f r)
end
theorem RKs.unf {κ : Type} {P : Addr} {od : Obj} {ks : List (Key × V)} {u1 : HO} (n : H P = some (.frz od (.dK ks))) (f : P ∈ M) : ∀ {ds : List (κ × D)} {vs : List (κ × V)}, RKs A K M H ds vs → RKs A K M (upd H P u1) ds vs
  | _, _, .nil => .nil
  | _, _, .cons h r => .cons (h.unf n f) (RKs.unf n f r)
theorem OR.unf {P a : Addr} {od : Obj} {ks : List (Key × V)} {u1 : HO} {o : Ob} (n : H P = some (.frz od (.dK ks))) (f : P ∈ M) (ne : a ≠ P) (h : OR A K M H a o) : OR A K M (upd H P u1) a o := by
  cases o with
  | lst ds =>
    obtain ⟨nl, vs, h1, r⟩ := h
    exact ⟨nl, vs, (upd_ne ne).trans h1, r.unf n f⟩
  | dk ds =>
    obtain ⟨nl, vs, h1, r⟩ := h
    exact ⟨nl, vs, (upd_ne ne).trans h1, r.unf n f⟩
  | dt ds =>
    obtain ⟨nl, vs, h1, r⟩ := h
    exact ⟨nl, vs, (upd_ne ne).trans h1, r.unf n f⟩
  | ins c ds =>
    obtain ⟨nl, dx, vs, h1, r⟩ := h
    exact ⟨nl, dx, vs, (upd_ne ne).trans h1, r.unf n f⟩
  | fz ds =>
    obtain ⟨nl, dx, vs, h1, r⟩ := h
    exact ⟨nl, dx, vs, (upd_ne ne).trans h1, r.unf n f⟩
theorem SR.unf {P : Addr} {od : Obj} {ks : List (Key × V)} {u1 : HO} (n : H P = some (.frz od (.dK ks))) (f : P ∈ M) (x : SR A K M H σ ρ) : SR A K M (upd H P u1) σ ρ :=
  ⟨x.len, fun i d e => by
    obtain ⟨v, e1, r⟩ := x.at_ i d e
    exact ⟨v, e1, r.unf n f⟩, fun b i ds e => by
    obtain ⟨a, vs, e1, ha, m, nf, r⟩ := x.ow b i ds e
    exact ⟨a, vs, e1, by rw [upd_ne fun z => m (by rw [z]; exact f)]; exact ha, m, nf, r.unf n f⟩⟩
theorem At.unf {p : Nat} {P : Addr} {od : Obj} {ks : List (Key × V)} {kvs kvs' : List (Key × D)} (hp : M[p]? = some P) (n : H P = some (.frz od (.dK ks))) (x : At A K σ H ρ S M) (e : S[p]? = some (.fz kvs')) (nl : noLs (kvs.map (·.2)) = true) (r : RKs A K M H kvs ks) : At A K σ (upd H P (.dK ks)) ρ (S.set p (.dk kvs)) M := by
  have f : P ∈ M := List.mem_of_getElem? hp
  refine ⟨⟨by rw [List.length_set]; exact x.hr.len, x.hr.nd, fun j ob ej => ?_⟩, x.sr.unf n f, fun a m => ?_⟩
  · by_cases hj : p = j
    · subst hj
      rw [List.getElem?_set_self (List.getElem?_eq_some_iff.mp e).1] at ej
      cases ej
      exact ⟨P, hp, nl, ks, upd_same, r.unf n f⟩
    · rw [List.getElem?_set_ne hj] at ej
      obtain ⟨b, eb, qb⟩ := x.hr.ob j ob ej
      refine ⟨b, eb, qb.unf n f fun z => hj ?_⟩
      subst z
      exact nd_ix x.hr.nd hp eb
  · by_cases e : a = P
    · exact ⟨_, by rw [e]; exact upd_same⟩
    · rw [upd_ne e]
      exact x.ff a m
theorem RR.unf {P : Addr} {od : Obj} {ks : List (Key × V)} {H0 : Hp} (n : H P = some (.frz od (.dK ks))) (f : P ∈ M) {u : HO} {r : R} {v : V} (h : RR A K M H (upd H0 P u) r v) : RR A K M (upd H P (.dK ks)) H0 r v := by
  have h0 : ∀ {a : Addr}, upd H0 P u a = none → H0 a = none ∧ a ≠ P := fun {a} e => by
    by_cases z : a = P
    · rw [z, upd_same] at e
      cases e
    · rw [upd_ne z] at e
      exact ⟨e, z⟩
  cases r with
  | v d => exact RD.unf n f h
  | l ds =>
    obtain ⟨a, vs, e, n0, m, nf, ha, q⟩ := h
    exact ⟨a, vs, e, (h0 n0).1, m, nf, (upd_ne (h0 n0).2).trans ha, RDs.unf (A := A.w (a :: A.F)) n f q⟩
  | d ds =>
    obtain ⟨a, vs, e, n0, m, nf, ha, q⟩ := h
    exact ⟨a, vs, e, (h0 n0).1, m, nf, (upd_ne (h0 n0).2).trans ha, q.unf n f⟩
  | t ds =>
    obtain ⟨a, vs, e, n0, m, ha, q⟩ := h
    exact ⟨a, vs, e, (h0 n0).1, m, (upd_ne (h0 n0).2).trans ha, q.unf n f⟩
theorem Stp.unf {P : Addr} {od : Obj} {ks : List (Key × V)} {M' : List Addr} {H' : Hp} (f : P ∈ M) (hk : H P = some (.dK ks)) (s : Stp K M (upd H P (.frz od (.dK ks))) M' H') : Stp K M H M' (upd H' P (.dK ks)) := by
  have ne : ∀ {a : Addr} {o : HO}, H a = some o → (∀ ws, o ≠ .dK ws) → a ≠ P := fun {a o} h z e => by
    rw [e, hk] at h
    cases h
    exact z _ rfl
  obtain ⟨N, e1, e2⟩ := s.ext
  refine ⟨⟨N, e1, fun b hb => ?_⟩, fun a o h n => ?_, fun a h => ?_, fun a vs h => ?_, fun a o u h => ?_⟩
  · have := e2 b hb
    by_cases z : b = P
    · rw [z, upd_same] at this
      cases this
    · rw [upd_ne z] at this
      exact this
  · have z : a ≠ P := fun z => n (by rw [z]; exact f)
    rw [upd_ne z]
    exact s.keep a o (by rw [upd_ne z]; exact h) n
  · by_cases z : a = P
    · rw [z, upd_same] at h
      cases h
    · rw [upd_ne z] at h
      have := s.grow a h
      rw [upd_ne z] at this
      exact this
  · have z := ne h (fun _ e => by cases e)
    rw [upd_ne z]
    exact s.tup a vs (by rw [upd_ne z]; exact h)
  · have z := ne h (fun _ e => by cases e)
    rw [upd_ne z]
    exact s.frz a o u (by rw [upd_ne z]; exact h)
end
section
variable {P : Pg} {rc : Nat → List D → Sto → O R} {A : Adr} {W : WX} {X : Cx} {e : Expr} {i : Nat} {ce : E}
theorem se_lck (h : PE X e (tE P rc A X.K W ce)) : PE X e (tE P rc A X.K W (.lck i ce)) := by
  refine (pe_lock h).imp fun σ H Q ⟨Φ, ρ, S, M, x, h⟩ => ?_
  simp only [evE] at h
  split at h
  · next p hi =>
    split at h
    · next kvs hS =>
      obtain ⟨a, ha, q⟩ := x.hr.ob p _ hS
      obtain ⟨nl, ws, h1, r⟩ := q
      have m : a ∈ M := List.mem_of_getElem? ha
      refine ⟨a, .dK ws, h1, trivial, fun od => ⟨Φ, ρ, S.set p (.fz kvs), M, ?_⟩⟩
      have s1 : Stp X.K M H M (upd H a (.frz od (.dK ws))) := stp_at x.hr hS ha
      obtain ⟨s2, x2⟩ := set_ok (u := .frz od (.dK ws)) x hS ha (o' := .fz kvs) ⟨nl, od, ws, upd_same, r.mono s1⟩
      refine ⟨x2, ?_⟩
      cases eo : evE P rc ce ρ (S.set p (.fz kvs)) with
      | no => rw [eo] at h; exact h.elim
      | ex k S' => rw [eo] at h; exact h.elim
      | ok y S2 =>
        rw [eo] at h
        intro v H' M' s' x' rr
        have hf : H' a = some (.frz od (.dK ws)) := s'.frz _ _ _ upd_same
        refine ⟨hf, ?_⟩
        cases e2 : S2[p]? with
        | none => simp only [lckO, e2] at h; exact h.elim
        | some o2 =>
          cases o2 with
          | fz kvs' =>
            simp only [lckO, e2] at h
            have ha' : M'[p]? = some a := s'.at_ ha
            have m' : a ∈ M' := List.mem_of_getElem? ha'
            exact h v (upd H' a (.dK ws)) M' (s'.unf m h1) (At.unf ha' hf x' e2 nl ((r.mono s1).mono s')) (RR.unf hf m' rr)
          | _ => simp only [lckO, e2] at h; exact h.elim
    · exact h.elim
  · exact h.elim
end
end Pl
/-! Statements: where they stand. -/
namespace Pl
open PySem PySem.Spec
open PyProof.Rows hiding St
open L2
/-- where a def's statement stands: Hs the heap at the def's start, O the lists that it changes -/
structure AtS (A : Adr) (K : PySem.W.Frag) (Hs : Hp) (O : List Addr) (σ : St) (H : Hp) (ρ : Loc) (S : Sto) (M : List Addr) : Prop where
  hr : HR A K M H S
  len : σ.length = ρ.length
  at_ : ∀ (i : Nat) (d : D), ρ[i]? = some (.v d) → ∃ v, σ[i]? = some (some v) ∧ RD (A.w (O ++ A.F)) K M H d v
  ow : ∀ (i : Nat) (ds : List D), ρ[i]? = some (.own ds) → ∃ a vs, σ[i]? = some (some (.ref a)) ∧ a ∈ O ∧ H a = some (.lst vs) ∧ RDs (A.w (O ++ A.F)) K M H ds vs
  oi : ∀ (i j : Nat) (ds es : List D) (a : Addr), ρ[i]? = some (.own ds) → ρ[j]? = some (.own es) → σ[i]? = some (some (.ref a)) → σ[j]? = some (some (.ref a)) → i = j
  om : ∀ a ∈ O, a ∉ M ∧ a ∉ A.F ∧ Hs a = none ∧ ∃ vs, H a = some (.lst vs)
  ff : ∀ a ∈ A.F, ∃ o, H a = some o
  gr : ∀ a, H a = none → Hs a = none
section
variable {A : Adr} {K : PySem.W.Frag} {W : WX} {M M' M1 M2 O O' O1 O2 : List Addr} {H H' H0 H1 H2 Hs : Hp} {Dn : Ends} {σ : St} {ρ : Loc} {S S' : Sto}
theorem Stp.toS (s : Stp K M H M' H') : StpS K O M H O M' H' := ⟨s.ext, fun a o h m n => ⟨s.keep a o h m, n⟩, s.grow, s.tup, s.frz⟩
theorem StpS.refl : StpS K O M H O M H := Stp.refl.toS
theorem StpS.trans (a : StpS K O M H O1 M1 H1) (b : StpS K O1 M1 H1 O2 M2 H2) : StpS K O M H O2 M2 H2 := by
  obtain ⟨N1, e1, f1⟩ := a.ext
  obtain ⟨N2, e2, f2⟩ := b.ext
  refine ⟨⟨N1 ++ N2, by rw [e2, e1, List.append_assoc], fun x hx => ?_⟩, fun x o h n m => ?_, fun x h => a.grow x (b.grow x h), fun x vs h => b.tup x vs (a.tup x vs h), fun x od u h => b.frz x od u (a.frz x od u h)⟩
  · rcases List.mem_append.mp hx with hx | hx
    · exact f1 x hx
    · exact a.grow x (f2 x hx)
  · obtain ⟨k1, k2⟩ := a.keep x o h n m
    refine b.keep x o k1 (fun hm => ?_) k2
    rw [e1] at hm
    rcases List.mem_append.mp hm with hm | hm
    · exact n hm
    · rw [f1 x hm] at h
      cases h
theorem StpS.done (s : StpS K [] M H O' M' H') : Stp K M H M' H' := ⟨s.ext, fun a o h m => (s.keep a o h m (by simp)).1, s.grow, s.tup, s.frz⟩
theorem AtS.mono (s : Stp K M H M' H') (x : AtS A K Hs O σ H ρ S M) (hr : HR A K M' H' S') : AtS A K Hs O σ H' ρ S' M' where
  hr := hr
  len := x.len
  at_ := fun i d e => by
    obtain ⟨v, e1, r⟩ := x.at_ i d e
    exact ⟨v, e1, r.mono s⟩
  ow := fun i ds e => by
    obtain ⟨a, vs, e1, m, ha, r⟩ := x.ow i ds e
    exact ⟨a, vs, e1, m, s.keep _ _ ha (x.om a m).1, r.mono s⟩
  oi := x.oi
  om := fun a m => by
    obtain ⟨n, f, z, vs, ha⟩ := x.om a m
    exact ⟨s.nin ha n, f, z, vs, s.keep _ _ ha n⟩
  ff := fun a m => s.live (x.ff a m)
  gr := fun a h => x.gr a (s.grow a h)
/-- the def's lists out of sight -/
theorem AtS.hid (x : AtS A K Hs O σ H ρ S M) : At ((A.b false).w (O ++ A.F)) K σ H ρ S M where
  hr := x.hr.free
  sr := ⟨x.len, fun i d e => by
    obtain ⟨v, e1, r⟩ := x.at_ i d e
    exact ⟨v, e1, RD.sub (A := A.w (O ++ A.F)) (fun _ h => h) r⟩, fun b => by cases b⟩
  ff := fun a m => by
    rcases List.mem_append.mp m with m | m
    · obtain ⟨_, _, _, vs, ha⟩ := x.om a m
      exact ⟨_, ha⟩
    · exact x.ff a m
/-- .. lent -/
theorem AtS.bor (x : AtS A K Hs O σ H ρ S M) : At ((A.b true).w A.F) K σ H ρ S M where
  hr := x.hr.free
  sr := ⟨x.len, fun i d e => by
    obtain ⟨v, e1, r⟩ := x.at_ i d e
    exact ⟨v, e1, RD.sub (A := A.w (O ++ A.F)) (fun _ h => List.mem_append_right _ h) r⟩, fun _ i ds e => by
    obtain ⟨a, vs, e1, m, ha, r⟩ := x.ow i ds e
    obtain ⟨n, f, _⟩ := x.om a m
    exact ⟨a, vs, e1, ha, n, f, RDs.sub (A := A.w (O ++ A.F)) (fun _ h => List.mem_append_right _ h) r⟩⟩
  ff := x.ff
/-- what an expression sees -/
def md (b : Bool) (O : List Addr) (F : List Addr) : List Addr := if b = true then F else O ++ F
theorem AtS.see (b : Bool) (x : AtS A K Hs O σ H ρ S M) : At ((A.b b).w (md b O A.F)) K σ H ρ S M := by
  cases b with
  | true => exact x.bor
  | false => exact x.hid
theorem md_F {b : Bool} {F : List Addr} {a : Addr} (h : a ∉ md b O F) : a ∉ F := by
  unfold md at h
  split at h
  · exact h
  · exact fun m => h (List.mem_append_right _ m)
/-- a value that may be kept -/
theorem keepD {b : Bool} {d : D} {v : V} (e : brwB b d = true) (r : RD ((A.b b).w (md b O A.F)) K M H d v) : RD (A.w (O ++ A.F)) K M H d v := by
  cases b with
  | true => exact RD.noL (A := (A.b true).w (md true O A.F)) (show noL d = true from e) r
  | false => exact RD.sub (A := (A.b false).w (md false O A.F)) (fun _ h => h) r
theorem keepDs {b : Bool} {ds : List D} {vs : List V} (e : brwL b ds = true) (r : RDs ((A.b b).w (md b O A.F)) K M H ds vs) : RDs (A.w (O ++ A.F)) K M H ds vs := by
  cases b with
  | true => exact RDs.noL (A := (A.b true).w (md true O A.F)) (show noLs ds = true from e) r
  | false => exact RDs.sub (A := (A.b false).w (md false O A.F)) (fun _ h => h) r
theorem keepR {b : Bool} {x : R} {v : V} (ho : ∀ a ∈ O, ∃ o, H0 a = some o) (e : brwR b x = true) (r : RR ((A.b b).w (md b O A.F)) K M H H0 x v) : RR (A.w (O ++ A.F)) K M H H0 x v := by
  cases b with
  | true =>
    unfold brwR at e
    cases x with
    | v d => exact RD.noL (A := (A.b true).w (md true O A.F)) (show noL d = true from e) r
    | l ds =>
      obtain ⟨a, vs, e1, n0, n, f, ha, q⟩ := r
      refine ⟨a, vs, e1, n0, n, fun m => ?_, ha, RDs.noL (A := ((A.b true).w (md true O A.F)).w (a :: A.F)) (show noLs ds = true from e) q⟩
      rcases List.mem_append.mp m with m | m
      · obtain ⟨o, z⟩ := ho a m
        rw [n0] at z
        cases z
      · exact f m
    | d ds => cases e
    | t ds => cases e
  | false =>
    have hf : ∀ {F' F'' : List Addr} {ds : List D} {vs : List V}, (∀ a ∈ F'', a ∈ F') → RDs ((A.b false).w F') K M H ds vs → RDs (A.w F'') K M H ds vs := fun h r => RDs.sub (A := (A.b false).w _) h r
    cases x with
    | v d => exact RD.sub (A := (A.b false).w (md false O A.F)) (fun _ h => h) r
    | l ds =>
      obtain ⟨a, vs, e1, n0, n, f, ha, q⟩ := r
      exact ⟨a, vs, e1, n0, n, f, ha, hf (fun _ h => h) q⟩
    | d ds =>
      obtain ⟨a, vs, e1, n0, n, f, ha, q⟩ := r
      exact ⟨a, vs, e1, n0, n, f, ha, RKs.chg (A := (A.b false).w (md false O A.F)) (fun _ _ r => RD.sub (A := (A.b false).w (md false O A.F)) (fun _ h => h) r) q⟩
    | t ds =>
      obtain ⟨a, vs, e1, n0, n, ha, q⟩ := r
      exact ⟨a, vs, e1, n0, n, ha, RKs.chg (A := (A.b false).w (md false O A.F)) (fun _ _ r => RD.sub (A := (A.b false).w (md false O A.F)) (fun _ h => h) r) q⟩
section
variable (A : Adr) (K : PySem.W.Frag) (W : WX)
/-- what a run of statements says -/
def PostS (Hs : Hp) (Dn : Ends) (O M : List Addr) (H : Hp) (o : Pl.O Flow) : Prop := match o with
  | .ok (.next ρ') S' => ∀ σ' H' M' O', StpS K O M H O' M' H' → AtS A K Hs O' σ' H' ρ' S' M' → Dn.nx σ' H'
  | .ok (.brk ρ') S' => ∀ σ' H' M' O', StpS K O M H O' M' H' → AtS A K Hs O' σ' H' ρ' S' M' → Dn.bk σ' H'
  | .ok (.cont ρ') S' => ∀ σ' H' M' O', StpS K O M H O' M' H' → AtS A K Hs O' σ' H' ρ' S' M' → Dn.ct σ' H'
  | .ok (.ret r) S' => ∀ v H' M' O', StpS K O M H O' M' H' → HR A K M' H' S' → RR A K M' H' Hs r v → Dn.rt v H'
  | .ok (.raise k ρ') S' => ∀ σ' H' M' O', StpS K O M H O' M' H' → AtS A K Hs O' σ' H' ρ' S' M' → W (.ref (A.xc k)) none σ' H'
  | .ex _ _ => False
  | .no => False
end
theorem PostS.rebase {o : Pl.O Flow} (h : PostS A K W Hs Dn O M H o) (s : StpS K O M H O1 M1 H1) : PostS A K W Hs Dn O1 M1 H1 o := by
  cases o with
  | ex k S' => exact h
  | no => exact h
  | ok f S' =>
    cases f with
    | next ρ' => exact fun σ' H' M' O' s' x => h σ' H' M' O' (s.trans s') x
    | brk ρ' => exact fun σ' H' M' O' s' x => h σ' H' M' O' (s.trans s') x
    | cont ρ' => exact fun σ' H' M' O' s' x => h σ' H' M' O' (s.trans s') x
    | ret r => exact fun v H' M' O' s' x r => h v H' M' O' (s.trans s') x r
    | raise k ρ' => exact fun σ' H' M' O' s' x => h σ' H' M' O' (s.trans s') x
/-- an expression, then a flow of its value -/
theorem PostS.flow {b : Bool} {α β : Type} {Rl : Rel α β} {o : Pl.O α} {f : α → Sto → Pl.O Flow} {Q : β → Hp → Prop} (x : AtS A K Hs O σ H ρ S M) (h : PostS A K W Hs Dn O M H (flowO ρ o f))
    (k : ∀ a S1 v H1 M1, Stp K M H M1 H1 → AtS A K Hs O σ H1 ρ S1 M1 → Rl M1 H1 H a v → PostS A K W Hs Dn O M1 H1 (f a S1) → Q v H1) : Post ((A.b b).w (md b O A.F)) K W Rl σ ρ M H o Q := by
  cases o with
  | ok a S' => exact fun v H' M' s' x' r => k a S' v H' M' s' (x.mono s' (HR.free (A := (A.b b).w (md b O A.F)) (F := A.F) (b := A.bw) x'.hr)) r (PostS.rebase h s'.toS)
  | ex k' S' => exact fun H' M' s' x' => h σ H' M' O s'.toS (x.mono s' (HR.free (A := (A.b b).w (md b O A.F)) (F := A.F) (b := A.bw) x'.hr))
  | no => exact h
theorem PostS.flow0 {b : Bool} {α β : Type} {Rl : Rel α β} {o : Pl.O α} {f : α → Sto → Pl.O Flow} {Q : β → Hp → Prop} (x : AtS A K Hs O σ H ρ S M) (h : PostS A K W Hs Dn O M H (flowO ρ o f))
    (k : ∀ a S1 v H1 M1, Stp K M H M1 H1 → AtS A K Hs O σ H1 ρ S1 M1 → Rl M1 H1 H a v → PostS A K W Hs Dn O M H (f a S1) → Q v H1) : Post ((A.b b).w (md b O A.F)) K W Rl σ ρ M H o Q := by
  cases o with
  | ok a S' => exact fun v H' M' s' x' r => k a S' v H' M' s' (x.mono s' (HR.free (A := (A.b b).w (md b O A.F)) (F := A.F) (b := A.bw) x'.hr)) r h
  | ex k' S' => exact fun H' M' s' x' => h σ H' M' O s'.toS (x.mono s' (HR.free (A := (A.b b).w (md b O A.F)) (F := A.F) (b := A.bw) x'.hr))
  | no => exact h
theorem SR.bind_ {o : Pl.O R} {Q : V → Hp → Prop} {A' : Adr} (h : Post A' K W (RDd A' K) σ ρ M H (valO o) Q) : Post A' K W (RRl A' K) σ ρ M H o Q := h.valV
end
section
variable (P : Pg) (rc : Nat → List D → Sto → O R) (A : Adr) (K : PySem.W.Frag) (W : WX)
def tS (c : S) : TS := fun Dn σ H => ∃ F Hs O ρ S M, AtS (A.w F) K Hs O σ H ρ S M ∧ PostS (A.w F) K W Hs Dn O M H (evS P rc c ρ S)
def tSs (c : Ss) : TS := fun Dn σ H => ∃ F Hs O ρ S M, AtS (A.w F) K Hs O σ H ρ S M ∧ PostS (A.w F) K W Hs Dn O M H (evSs P rc c ρ S)
end
section
variable {P : Pg} {rc : Nat → List D → Sto → O R} {A : Adr} {W : WX} {X : Cx} {pos : Pos} {a b c e o tg iter : Expr} {ca cb cc ce co : E} {st : Stmt} {sts body : List Stmt} {cs : S} {css cs1 cs2 : Ss} {g : G} {cit : It} {bw : Bool}
/-! ### flow -/
theorem ss_nil : PSs X [] (tSs P rc A X.K W .nil) := pss_nil.imp fun Dn σ H ⟨F, Hs, O, ρ, S, M, x, h⟩ => h σ H M O .refl x
theorem PostS.seq {A : Adr} {K : PySem.W.Frag} {Hs : Hp} {Dn : Ends} {O M : List Addr} {H : Hp} {o : Pl.O Flow} {f : Loc → Sto → Pl.O Flow} {N : St → Hp → Prop}
    (h : PostS A K W Hs Dn O M H (match o with
      | .ok (.next r') S' => f r' S'
      | o => o)) (k : ∀ ρ' S' σ' H' M' O', StpS K O M H O' M' H' → AtS A K Hs O' σ' H' ρ' S' M' → PostS A K W Hs Dn O' M' H' (f ρ' S') → N σ' H') : PostS A K W Hs { Dn with nx := N } O M H o := by
  cases o with
  | ex k S' => exact h
  | no => exact h
  | ok f S' =>
    cases f with
    | next ρ' => exact fun σ' H' M' O' s' x' => k ρ' S' σ' H' M' O' s' x' (PostS.rebase h s')
    | brk ρ' => exact h
    | cont ρ' => exact h
    | ret r => exact h
    | raise k ρ' => exact h
theorem ss_cons (h1 : PS X st (tS P rc A X.K W cs)) (h2 : PSs X sts (tSs P rc A X.K W css)) : PSs X (st :: sts) (tSs P rc A X.K W (.cons cs css)) := by
  refine (pss_cons h1 h2).imp fun Dn σ H ⟨F, Hs, O, ρ, S, M, x, h⟩ => ⟨F, Hs, O, ρ, S, M, x, ?_⟩
  simp only [evSs] at h
  exact PostS.seq h fun ρ' S' σ' H' M' O' s' x' h' => ⟨F, Hs, O', ρ', S', M', x', h'⟩
theorem s_pass : PS X (.Pass pos) (tS P rc A X.K W .pass) := ps_pass.imp fun Dn σ H ⟨F, Hs, O, ρ, S, M, x, h⟩ => h σ H M O .refl x
theorem s_brk : PS X (.Break pos) (tS P rc A X.K W .brk) := ps_break.imp fun Dn σ H ⟨F, Hs, O, ρ, S, M, x, h⟩ => h σ H M O .refl x
theorem s_cont : PS X (.Continue pos) (tS P rc A X.K W .cont) := ps_continue.imp fun Dn σ H ⟨F, Hs, O, ρ, S, M, x, h⟩ => h σ H M O .refl x
theorem s_drop (he : PE X e (tE P rc (A.b true) X.K W ce)) (hs : swapsWith e none pos.line X.env = pure false) : PS X (.Expr e pos) (tS P rc A X.K W (.drop ce)) := by
  refine (ps_expr he hs).imp fun Dn σ H ⟨F, Hs, O, ρ, S, M, x, h⟩ => ⟨_, ρ, S, M, x.see true, ?_⟩
  exact PostS.flow (A := A.w F) (b := true) x h fun r S1 v H1 M1 s1 x1 rr h1 => h1 σ H1 M1 O .refl x1
theorem ret_ok {A : Adr} {K : PySem.W.Frag} {Hs H0 H : Hp} {M : List Addr} {r : R} {v : V} {b : Bool} (gr : ∀ a, H0 a = none → Hs a = none) (h : RR ((A.b b).w A.F) K M H H0 r v) : RR A K M H Hs r v := by
  cases r with
  | v d => exact RD.sub (A := (A.b b).w A.F) (F := A.F) (b := A.bw) (fun _ h => h) h
  | l ds =>
    obtain ⟨a, vs, e, n0, n, f, ha, q⟩ := h
    exact ⟨a, vs, e, gr a n0, n, f, ha, RDs.sub (A := (A.b b).w (a :: A.F)) (F := a :: A.F) (b := A.bw) (fun _ h => h) q⟩
  | d ds =>
    obtain ⟨a, vs, e, n0, n, f, ha, q⟩ := h
    exact ⟨a, vs, e, gr a n0, n, f, ha, RKs.chg (A := (A.b b).w A.F) (fun _ _ r => RD.sub (A := (A.b b).w A.F) (F := A.F) (b := A.bw) (fun _ h => h) r) q⟩
  | t ds =>
    obtain ⟨a, vs, e, n0, n, ha, q⟩ := h
    exact ⟨a, vs, e, gr a n0, n, ha, RKs.chg (A := (A.b b).w A.F) (fun _ _ r => RD.sub (A := (A.b b).w A.F) (F := A.F) (b := A.bw) (fun _ h => h) r) q⟩
theorem s_ret (he : PE X e (tE P rc (A.b true) X.K W ce)) : PS X (.Return (some e) pos) (tS P rc A X.K W (.ret ce)) := by
  refine (ps_ret he).imp fun Dn σ H ⟨F, Hs, O, ρ, S, M, x, h⟩ => ⟨_, ρ, S, M, x.see true, ?_⟩
  exact PostS.flow (A := A.w F) (b := true) x h fun r S1 v H1 M1 s1 x1 rr h1 => h1 v H1 M1 O .refl x1.hr (ret_ok (A := A.w F) (b := true) x.gr rr)
theorem s_retO {i : Nat} {y : Str} {p : Pos} (hN : X.N[i]? = some y) (hv : Vis X.env.scope y) (hd : (y == ("__debug__" : Str)) = false) (hcd : (y == ("__classdict__" : Str)) = false) : PS X (.Return (some (.Name y p)) pos) (tS P rc A X.K W (.retO i)) := by
  refine (ps_ret (pe_var hN hv hd hcd)).imp fun Dn σ H ⟨F, Hs, O, ρ, S, M, x, h⟩ => ?_
  simp only [evS] at h
  cases e : ρ[i]? with
  | none => rw [e] at h; exact h.elim
  | some s =>
    rw [e] at h
    cases s with
    | un => exact h.elim
    | v d =>
      obtain ⟨v, e1, r⟩ := x.at_ i d e
      exact ⟨v, e1, h v H M O .refl x.hr (RD.sub (A := (A.w F).w (O ++ F)) (F := F) (b := A.bw) (fun _ h => List.mem_append_right _ h) r)⟩
    | own ds =>
      obtain ⟨a, vs, e1, m, ha, r⟩ := x.ow i ds e
      obtain ⟨n, f, z, _⟩ := x.om a m
      refine ⟨.ref a, e1, h (.ref a) H M O .refl x.hr ⟨a, vs, rfl, z, n, f, ha, RDs.sub (A := (A.w F).w (O ++ F)) (F := a :: F) (b := A.bw) (fun b hb => ?_) r⟩⟩
      rcases List.mem_cons.mp hb with rfl | hb
      · exact List.mem_append_left _ m
      · exact List.mem_append_right _ hb
theorem s_retN : PS X (.Return none pos) (tS P rc A X.K W .retN) := ps_retN.imp fun Dn σ H ⟨F, Hs, O, ρ, S, M, x, h⟩ => h .non H M O .refl x.hr .non
theorem s_ite {bs1 bs2 : List Stmt} (hc : PT X c (tT P rc (A.b true) X.K W cc)) (ha : PSs X bs1 (tSs P rc A X.K W cs1)) (hb : PSs X bs2 (tSs P rc A X.K W cs2)) : PS X (.If c bs1 bs2 pos) (tS P rc A X.K W (.ite cc cs1 cs2)) := by
  refine (ps_if hc ha hb).imp fun Dn σ H ⟨F, Hs, O, ρ, S, M, x, h⟩ => ⟨_, ρ, S, M, x.see true, ?_⟩
  refine PostS.flow (A := A.w F) (b := true) x h fun k S1 v H1 M1 s1 x1 rr h1 => ?_
  cases rr
  cases k with
  | true => exact ⟨F, Hs, O, ρ, S1, M1, x1, h1⟩
  | false => exact ⟨F, Hs, O, ρ, S1, M1, x1, h1⟩
/-! ### assignments -/
theorem setAll_own {i : Nat} {ds : List D} : ∀ {is : List Nat} {es : List D} {ρ ρ' : Loc}, setAll is es ρ = some ρ' → ρ'[i]? = some (.own ds) → ρ[i]? = some (.own ds) ∧ i ∉ is
  | [], [], _, _, e, h => by
    cases e
    exact ⟨h, by simp⟩
  | j :: is, d :: es, ρ, ρ', e, h => by
    obtain ⟨h1, h2⟩ := setAll_own (is := is) (es := es) (ρ := ρ.set j (.v d)) e h
    by_cases q : j = i
    · subst q
      rw [List.getElem?_set, if_pos rfl] at h1
      split at h1 <;> cases h1
    · rw [List.getElem?_set_ne q] at h1
      exact ⟨h1, fun m => (List.mem_cons.mp m).elim (fun z => q z.symm) h2⟩
  | [], _ :: _, _, _, e, _ => by cases e
  | _ :: _, [], _, _, e, _ => by cases e
theorem setG_own {i : Nat} {ds : List D} {g : G} {x : R} {S : Sto} {ρ ρ' : Loc} (e : setG S g x ρ = some ρ') (h : ρ'[i]? = some (.own ds)) : ρ[i]? = some (.own ds) ∧ i ∉ g.ix := by
  cases g with
  | name j =>
    obtain ⟨d, e1, rfl⟩ := mapO e
    by_cases q : j = i
    · subst q
      rw [List.getElem?_set, if_pos rfl] at h
      split at h <;> cases h
    · rw [List.getElem?_set_ne q] at h
      exact ⟨h, by simp [G.ix]; exact fun z => q z.symm⟩
  | tup is =>
    simp only [setG] at e
    cases e1 : sqOf S x with
    | none => rw [e1] at e; cases e
    | some es =>
      rw [e1] at e
      exact setAll_own e h
theorem wipe_at {σ σ' : St} {ws : List Nat} {i : Nat} (e : wipe σ' ws = wipe σ ws) (h : i ∉ ws) : σ'[i]? = σ[i]? := by
  rw [← wipe_out (σ := σ') h, ← wipe_out (σ := σ) h, e]
/-- slots stored -/
theorem setG_ats {A : Adr} {K : PySem.W.Frag} {σ : St} {ρ ρ' : Loc} {S : Sto} {M O : List Addr} {H H0 Hs : Hp} {g : G} {x : R} {v : V} {Q : St → Hp → Prop} (y : AtS A K Hs O σ H ρ S M) (e : setG S g x ρ = some ρ') (r : RR (A.w (O ++ A.F)) K M H H0 x v)
    (q : ∀ σ', AtS A K Hs O σ' H ρ' S M → Q σ' H) : tG K g v σ H Q := by
  have sr0 : SR (A.w (O ++ A.F) |>.b false) K M H σ ρ := ⟨y.len, fun i d e => by
    obtain ⟨v, e1, r⟩ := y.at_ i d e
    exact ⟨v, e1, RD.sub (A := A.w (O ++ A.F)) (fun _ h => h) r⟩, fun b => by cases b⟩
  have r0 : RR (A.w (O ++ A.F) |>.b false) K M H H0 x v := by
    cases x with
    | v d => exact RD.sub (A := A.w (O ++ A.F)) (fun _ h => h) r
    | l ds =>
      obtain ⟨a, vs, e1, n0, n, f, ha, q⟩ := r
      exact ⟨a, vs, e1, n0, n, f, ha, RDs.sub (A := A.w (a :: (O ++ A.F))) (fun _ h => h) q⟩
    | d ds =>
      obtain ⟨a, vs, e1, n0, n, f, ha, q⟩ := r
      exact ⟨a, vs, e1, n0, n, f, ha, RKs.chg (A := A.w (O ++ A.F)) (fun _ _ r => RD.sub (A := A.w (O ++ A.F)) (fun _ h => h) r) q⟩
    | t ds =>
      obtain ⟨a, vs, e1, n0, n, ha, q⟩ := r
      exact ⟨a, vs, e1, n0, n, ha, RKs.chg (A := A.w (O ++ A.F)) (fun _ _ r => RD.sub (A := A.w (O ++ A.F)) (fun _ h => h) r) q⟩
  refine setG_sr (A := A.w (O ++ A.F) |>.b false) (ws := g.ix) y.hr.free sr0 e r0 (fun _ h => h) fun σ' s' w' => q σ' ?_
  have at_ : ∀ {i : Nat} {ds : List D}, ρ'[i]? = some (.own ds) → ρ[i]? = some (.own ds) ∧ σ'[i]? = σ[i]? := fun {i ds} h => by
    obtain ⟨h1, h2⟩ := setG_own e h
    exact ⟨h1, wipe_at w' h2⟩
  exact ⟨y.hr, s'.len, fun i d e => by
    obtain ⟨v, e1, r⟩ := s'.at_ i d e
    exact ⟨v, e1, RD.sub (A := A.w (O ++ A.F) |>.b false) (F := O ++ A.F) (b := A.bw) (fun _ h => h) r⟩, fun i ds h => by
    obtain ⟨h1, h2⟩ := at_ h
    obtain ⟨a, vs, e1, z⟩ := y.ow i ds h1
    exact ⟨a, vs, h2.trans e1, z⟩, fun i j ds es a hi hj ei ej => by
    obtain ⟨i1, i2⟩ := at_ hi
    obtain ⟨j1, j2⟩ := at_ hj
    exact y.oi i j ds es a i1 j1 (i2.symm.trans ei) (j2.symm.trans ej), y.om, y.ff, y.gr⟩
theorem asg_ok {Dn : Ends} {σ : St} {ρ : Loc} {S : Sto} {M O F : List Addr} {H Hs : Hp} (x : AtS (A.w F) X.K Hs O σ H ρ S M) (h : PostS (A.w F) X.K W Hs Dn O M H (evS P rc (.asg bw g ce) ρ S)) : tAsg (tE P rc (A.b bw) X.K W ce) (tG X.K g) Dn σ H := by
  refine ⟨_, ρ, S, M, x.see bw, ?_⟩
  refine PostS.flow (A := A.w F) (b := bw) x h fun r S1 v H1 M1 s1 x1 rr h1 => ?_
  by_cases hb : brwR bw r = true
  · rw [if_pos hb] at h1
    cases e : setG S1 g r ρ with
    | none => rw [e] at h1; exact h1.elim
    | some ρ' =>
      rw [e] at h1
      exact setG_ats (A := A.w F) x1 e (keepR (A := A.w F) (fun a m => by obtain ⟨_, _, _, vs, ha⟩ := x.om a m; exact ⟨_, ha⟩) hb rr) fun σ' x' => h1 σ' H1 M1 O .refl x'
  · rw [if_neg hb] at h1
    exact h1.elim
theorem s_asg (he : PE X e (tE P rc (A.b bw) X.K W ce)) (hg : PG X tg (tG X.K g)) (hs : swapsWithSole [tg] e pos.line X.env = pure false) (hw : swappedStores [tg] e X.env = pure none)
    (h1 : (assignEach [tg] X.env).map (·.2) = [assign tg X.env]) : PS X (.Assign [tg] e pos) (tS P rc A X.K W (.asg bw g ce)) :=
  (ps_asg he hg hs hw h1).imp fun Dn σ H ⟨F, Hs, O, ρ, S, M, x, h⟩ => asg_ok x h
theorem s_set {i : Nat} {y : Str} {pos' : Pos} (hN : X.N.Nodup) (hi : X.N[i]? = some y) (hx : L2.Loc X.env.scope y) (he : PE X e (tE P rc (A.b bw) X.K W ce)) (hs : swapsWith e (some (.Name y pos')) pos.line X.env = pure false) (hf : X.fn y = true ∨ X.env.scope.names.lookup y = some .local) :
    PS X (.Assign [.Name y pos'] e pos) (tS P rc A X.K W (.asg bw (.name i) ce)) :=
  (ps_set hN hi hx he hs hf).imp fun Dn σ H ⟨F, Hs, O, ρ, S, M, x, h⟩ => asg_ok (g := .name i) x h
theorem s_setLc {i : Nat} {y : Str} {py : Pos} {elt : Expr} {scope : Scope} {own : List (Str × Nat)} {spos : Pos} (hc : X.calm = true) (hN : X.N.Nodup) (hy : X.N[i]? = some y) (hyl : X.env.scope.names.lookup y = some .local)
    (hsw : swapsWith (.ListComp elt [⟨tg, iter, [], 0⟩] scope pos) (some (.Name y py)) spos.line X.env = pure true) (hi : PI X tg iter (tIt P rc (A.b bw) X.K W cit)) (ok : BlkOk X.N X.env.scope scope own) (hw : ∀ i ∈ g.ix, i ∈ own.map (·.2))
    (hg : ∀ (s : Shared) (H : Hp) (C : Addr) (cl : List (Str × Addr)) (fp : List Addr), PG (X.blk s H scope (compEnvC scope cl C X.env) fp) tg (tG X.K g))
    (he : ∀ (s : Shared) (H : Hp) (C : Addr) (cl : List (Str × Addr)) (fp : List Addr), PE (X.blk s H scope (compEnvC scope cl C X.env) fp) elt (tE P rc (A.b bw) X.K W0 ce)) (hs : ∀ x, foldedSetIterable iter X.env x = pure x) :
    PS X (.Assign [.Name y py] (.ListComp elt [⟨tg, iter, [], 0⟩] scope pos) spos) (tS P rc A X.K W (.asg bw (.name i) (.lc (own.map (·.2)) g cit ce))) := by
  refine (ps_setLc hc hN hy hyl hsw hi ok hg (fun _ _ _ _ _ => pts_nil) he hs).imp fun Dn σ H ⟨F, Hs, O, ρ, S, M, x, h⟩ => ?_
  obtain ⟨Φ, ρ, S, M, x, h⟩ := asg_ok (g := .name i) x h
  exact lc_gen blk_lc hw x h
theorem s_setLcI {i : Nat} {y : Str} {py : Pos} {elt : Expr} {scope : Scope} {own : List (Str × Nat)} {spos : Pos} (hc : X.calm = true) (hN : X.N.Nodup) (hy : X.N[i]? = some y) (hyl : X.env.scope.names.lookup y = some .local)
    (hsw : swapsWith (.ListComp elt [⟨tg, iter, [c], 0⟩] scope pos) (some (.Name y py)) spos.line X.env = pure true) (hi : PI X tg iter (tIt P rc (A.b bw) X.K W cit)) (ok : BlkOk X.N X.env.scope scope own) (hw : ∀ i ∈ g.ix, i ∈ own.map (·.2))
    (hg : ∀ (s : Shared) (H : Hp) (C : Addr) (cl : List (Str × Addr)) (fp : List Addr), PG (X.blk s H scope (compEnvC scope cl C X.env) fp) tg (tG X.K g))
    (ht : ∀ (s : Shared) (H : Hp) (C : Addr) (cl : List (Str × Addr)) (fp : List Addr), PT (X.blk s H scope (compEnvC scope cl C X.env) fp) c (tT P rc (A.b bw) X.K W0 cc))
    (he : ∀ (s : Shared) (H : Hp) (C : Addr) (cl : List (Str × Addr)) (fp : List Addr), PE (X.blk s H scope (compEnvC scope cl C X.env) fp) elt (tE P rc (A.b bw) X.K W0 ce)) (hs : ∀ x, foldedSetIterable iter X.env x = pure x) :
    PS X (.Assign [.Name y py] (.ListComp elt [⟨tg, iter, [c], 0⟩] scope pos) spos) (tS P rc A X.K W (.asg bw (.name i) (.lcI (own.map (·.2)) g cit cc ce))) := by
  refine (ps_setLc hc hN hy hyl hsw hi ok hg (fun s H C cl fp => pts_one (ht s H C cl fp)) he hs).imp fun Dn σ H ⟨F, Hs, O, ρ, S, M, x, h⟩ => ?_
  obtain ⟨Φ, ρ, S, M, x, h⟩ := asg_ok (g := .name i) x h
  exact lc_gen blk_lcI hw x h
end
end Pl
/-! Statements: lists of one's own, stores, loops. -/
namespace Pl
open PySem PySem.Spec
open PyProof.Rows hiding St
open L2
section
variable {A : Adr} {K : PySem.W.Frag} {W : WX} {M M' M1 M2 O O' O1 O2 : List Addr} {H H' H0 H1 H2 Hs : Hp} {Dn : Ends} {σ : St} {ρ : Loc} {S S' : Sto}
/-- a new list becomes the def's own -/
theorem AtS.own {i : Nat} {a : Addr} {vs : List V} {ds : List D} (x0 : AtS A K Hs O σ H ρ S M) (s : Stp K M H M1 H1) (x : AtS A K Hs O σ H1 ρ S' M1) (n0 : H a = none) (n : a ∉ M1) (f : a ∉ A.F) (ha : H1 a = some (.lst vs)) (r : RDs (A.w (a :: (O ++ A.F))) K M1 H1 ds vs) :
    AtS A K Hs (a :: O) (σ.set i (some (.ref a))) H1 (ρ.set i (.own ds)) S' M1 where
  hr := x.hr
  len := by rw [List.length_set, List.length_set]; exact x.len
  at_ := fun j d e => by
    by_cases q : i = j
    · subst q
      rw [List.getElem?_set, if_pos rfl] at e
      split at e <;> cases e
    · rw [List.getElem?_set_ne q] at e
      rw [List.getElem?_set_ne q]
      obtain ⟨v, e1, r⟩ := x0.at_ j d e
      exact ⟨v, e1, RD.mono s (RD.addF (A := A.w (O ++ A.F)) n0 r)⟩
  ow := fun j es e => by
    by_cases q : i = j
    · subst q
      rw [List.getElem?_set, if_pos rfl] at e
      split at e
      · next hl =>
        cases e
        exact ⟨a, vs, by rw [List.getElem?_set_self (by rw [x.len]; exact hl)], List.mem_cons_self, ha, r⟩
      · cases e
    · rw [List.getElem?_set_ne q] at e
      rw [List.getElem?_set_ne q]
      obtain ⟨b, ws, e1, m, hb, r⟩ := x0.ow j es e
      exact ⟨b, ws, e1, List.mem_cons_of_mem _ m, s.keep _ _ hb (x0.om b m).1, RDs.mono s (RDs.addF (A := A.w (O ++ A.F)) n0 r)⟩
  oi := fun j k ds es b hj hk ej ek => by
    have other : ∀ {j : Nat} {ds : List D}, i ≠ j → (ρ.set i (.own ds))[j]? = ρ[j]? := fun q => List.getElem?_set_ne q
    have bad : ∀ {j : Nat} {es : List D} {b : Addr}, ρ[j]? = some (.own es) → σ[j]? = some (some (.ref b)) → b ≠ a := fun {j es b} h1 h2 e => by
      obtain ⟨c, ws, e1, m, hb, _⟩ := x0.ow j es h1
      rw [h2] at e1
      cases e1
      subst e
      rw [n0] at hb
      cases hb
    have self : ∀ {b : Addr}, (σ.set i (some (.ref a)))[i]? = some (some (.ref b)) → b = a := fun {b} h => by
      rw [List.getElem?_set, if_pos rfl] at h
      split at h
      · cases h; rfl
      · cases h
    by_cases q : i = j
    · by_cases q2 : i = k
      · exact q.symm.trans q2
      · subst q
        rw [List.getElem?_set_ne q2] at hk ek
        exact absurd (self ej) (bad hk ek)
    · rw [List.getElem?_set_ne q] at hj ej
      by_cases q2 : i = k
      · subst q2
        exact absurd (self ek) (bad hj ej)
      · rw [List.getElem?_set_ne q2] at hk ek
        exact x0.oi j k _ _ b hj hk ej ek
  om := fun b m => by
    rcases List.mem_cons.mp m with rfl | m
    · exact ⟨n, f, x0.gr _ n0, vs, ha⟩
    · exact x.om b m
  ff := x.ff
  gr := x.gr
theorem stp_own {a : Addr} (s : Stp K M H M1 H1) (n0 : H a = none) : StpS K O M H (a :: O) M1 H1 :=
  ⟨s.ext, fun b o h m n => ⟨s.keep b o h m, fun z => (List.mem_cons.mp z).elim (fun e => by
    subst e
    rw [n0] at h
    cases h) n⟩, s.grow, s.tup, s.frz⟩
/-- a list of the def's own changes -/
theorem AtS.chg {i : Nat} {a : Addr} {vs us : List V} {ds es : List D} (x : AtS A K Hs O σ H ρ S M) (hi : ρ[i]? = some (.own ds)) (ei : σ[i]? = some (some (.ref a))) (ha : H a = some (.lst vs)) (m : a ∈ O) (r : RDs (A.w (O ++ A.F)) K M H es us) :
    StpS K O M H O M (upd H a (.lst us)) ∧ AtS A K Hs O σ (upd H a (.lst us)) (ρ.set i (.own es)) S M := by
  have mF : a ∈ (A.w (O ++ A.F)).F := List.mem_append_left _ m
  obtain ⟨nM, nF, zs, _⟩ := x.om a m
  have il : i < ρ.length := (List.getElem?_eq_some_iff.mp hi).1
  refine ⟨⟨⟨[], by simp, fun _ h => by simp at h⟩, fun b o h nm no => ⟨by
    rw [upd_ne fun e => no (by rw [e]; exact m)]
    exact h, no⟩, fun b h => by
    by_cases e : b = a
    · subst e
      rw [upd_same] at h
      cases h
    · rw [upd_ne e] at h
      exact h, fun b ws h => by
    rw [upd_ne fun e => by
      subst e
      rw [ha] at h; cases h]
    exact h, fun b od w h => by
    rw [upd_ne fun e => by
      subst e
      rw [ha] at h; cases h]
    exact h⟩, ?_⟩
  have sig : σ.set i (some (.ref a)) = σ := by
    apply List.ext_getElem?
    intro j
    by_cases q : i = j
    · subst q
      rw [List.getElem?_set_self (by rw [x.len]; exact il), ei]
    · rw [List.getElem?_set_ne q]
  exact {
    hr := HR.free (A := A.w (O ++ A.F)) (F := A.F) (b := A.bw) (HR.updD ha mF nM x.hr.free)
    len := by rw [List.length_set]; exact x.len
    at_ := fun j d e => by
      by_cases q : i = j
      · subst q
        rw [List.getElem?_set, if_pos rfl, if_pos il] at e
        cases e
      · rw [List.getElem?_set_ne q] at e
        obtain ⟨v, e1, r⟩ := x.at_ j d e
        exact ⟨v, e1, r.updD ha mF⟩
    ow := fun j es' e => by
      by_cases q : i = j
      · subst q
        rw [List.getElem?_set, if_pos rfl, if_pos il] at e
        cases e
        exact ⟨a, us, ei, m, upd_same, r.updD ha mF⟩
      · rw [List.getElem?_set_ne q] at e
        obtain ⟨b, ws, e1, mb, hb, r'⟩ := x.ow j es' e
        refine ⟨b, ws, e1, mb, ?_, r'.updD ha mF⟩
        rw [upd_ne fun z => q (by
          subst z
          exact x.oi i j ds es' b hi e ei e1)]
        exact hb
    oi := fun j k ds' es' b hj hk ej ek => by
      have g : ∀ {j : Nat} {ds' : List D}, (ρ.set i (.own es))[j]? = some (.own ds') → ∃ ds'', ρ[j]? = some (.own ds'') := fun {j ds'} h => by
        by_cases q : i = j
        · subst q
          exact ⟨_, hi⟩
        · rw [List.getElem?_set_ne q] at h
          exact ⟨_, h⟩
      obtain ⟨d1, h1⟩ := g hj
      obtain ⟨d2, h2⟩ := g hk
      exact x.oi j k d1 d2 b h1 h2 ej ek
    om := fun b mb => by
      obtain ⟨n, f, z, ws, hb⟩ := x.om b mb
      by_cases e : b = a
      · subst e
        exact ⟨n, f, z, us, upd_same⟩
      · exact ⟨n, f, z, ws, by rw [upd_ne e]; exact hb⟩
    ff := fun b mb => by
      by_cases e : b = a
      · exact ⟨_, by rw [e]; exact upd_same⟩
      · rw [upd_ne e]
        exact x.ff b mb
    gr := fun b h => by
      by_cases e : b = a
      · subst e
        exact zs
      · rw [upd_ne e] at h
        exact x.gr b h }
/-- a list of the def's own changes no more -/
theorem AtS.frz {i : Nat} {ds : List D} (x : AtS A K Hs O σ H ρ S M) (hi : ρ[i]? = some (.own ds)) : ∃ O', StpS K O M H O' M H ∧ AtS A K Hs O' σ H (ρ.set i (.v (.lst ds))) S M := by
  obtain ⟨a, vs, ei, m, ha, r⟩ := x.ow i ds hi
  obtain ⟨nM, nF, _⟩ := x.om a m
  have il : i < ρ.length := (List.getElem?_eq_some_iff.mp hi).1
  refine ⟨O.filter (· ≠ a), ⟨⟨[], by simp, fun _ h => by simp at h⟩, fun b o h _ n => ⟨h, fun z => n (List.mem_filter.mp z).1⟩, fun _ h => h, fun _ _ h => h, fun _ _ _ h => h⟩, ?_⟩
  have sub : ∀ b ∈ O.filter (· ≠ a) ++ A.F, b ∈ (A.w (O ++ A.F)).F := fun b h => by
    rcases List.mem_append.mp h with h | h
    · exact List.mem_append_left _ (List.mem_filter.mp h).1
    · exact List.mem_append_right _ h
  exact {
    hr := x.hr
    len := by rw [List.length_set]; exact x.len
    at_ := fun j d e => by
      by_cases q : i = j
      · subst q
        rw [List.getElem?_set, if_pos rfl, if_pos il] at e
        cases e
        refine ⟨.ref a, ei, .lst ⟨.inl ha, nM, fun z => ?_⟩ (RDs.sub (A := A.w (O ++ A.F)) sub r)⟩
        rcases List.mem_append.mp z with z | z
        · have := (List.mem_filter.mp z).2
          simp at this
        · exact nF z
      · rw [List.getElem?_set_ne q] at e
        obtain ⟨v, e1, r⟩ := x.at_ j d e
        exact ⟨v, e1, RD.sub (A := A.w (O ++ A.F)) sub r⟩
    ow := fun j es e => by
      by_cases q : i = j
      · subst q
        rw [List.getElem?_set, if_pos rfl, if_pos il] at e
        cases e
      · rw [List.getElem?_set_ne q] at e
        obtain ⟨b, ws, e1, mb, hb, r'⟩ := x.ow j es e
        refine ⟨b, ws, e1, List.mem_filter.mpr ⟨mb, ?_⟩, hb, RDs.sub (A := A.w (O ++ A.F)) sub r'⟩
        simp only [ne_eq, decide_not, Bool.not_eq_true', decide_eq_false_iff_not]
        intro z
        subst z
        exact q (x.oi i j ds es b hi e ei e1)
    oi := fun j k ds' es' b hj hk ej ek => by
      have g : ∀ {j : Nat} {ds' : List D}, (ρ.set i (.v (.lst ds)))[j]? = some (.own ds') → ρ[j]? = some (.own ds') := fun {j ds'} h => by
        by_cases q : i = j
        · subst q
          rw [List.getElem?_set, if_pos rfl, if_pos il] at h
          cases h
        · rw [List.getElem?_set_ne q] at h
          exact h
      exact x.oi j k _ _ b (g hj) (g hk) ej ek
    om := fun b mb => x.om b (List.mem_filter.mp mb).1
    ff := x.ff
    gr := x.gr }
end
section
variable {P : Pg} {rc : Nat → List D → Sto → O R} {A : Adr} {W : WX} {X : Cx} {pos : Pos} {a b c e o tg iter : Expr} {ca cb cc ce co : E} {st : Stmt} {sts body : List Stmt} {cs : S} {css cs1 cs2 : Ss} {g : G} {cit : It} {bw : Bool} {i : Nat}
theorem PostS.ifP {A : Adr} {K : PySem.W.Frag} {Hs : Hp} {Dn : Ends} {O M : List Addr} {H : Hp} {p : Prop} [Decidable p] {o : Pl.O Flow} (h : PostS A K W Hs Dn O M H (if p then o else .no)) : p ∧ PostS A K W Hs Dn O M H o := by
  by_cases hc : p
  · rw [if_pos hc] at h
    exact ⟨hc, h⟩
  · rw [if_neg hc] at h
    exact h.elim
theorem own_ok {Dn : Ends} {σ : St} {ρ : Loc} {S : Sto} {M O F : List Addr} {H Hs : Hp} (x : AtS (A.w F) X.K Hs O σ H ρ S M) (h : PostS (A.w F) X.K W Hs Dn O M H (evS P rc (.own bw i ce) ρ S)) : tAsg (tE P rc (A.b bw) X.K W ce) (gName i) Dn σ H := by
  refine ⟨_, ρ, S, M, x.see bw, ?_⟩
  refine PostS.flow0 (A := A.w F) (b := bw) x h fun r S1 v H1 M1 s1 x1 rr h1 => ?_
  cases r with
  | l ds =>
    obtain ⟨hb, h1⟩ := PostS.ifP h1
    obtain ⟨a, vs, rfl, n0, n, f, ha, q⟩ := rr
    have q' : RDs (A.w (a :: (O ++ F))) X.K M1 H1 ds vs := by
      cases bw with
      | true => exact RDs.noL (A := (A.b true).w (a :: md true O F)) (show noLs ds = true from hb) q
      | false => exact RDs.sub (A := (A.b false).w (a :: md false O F)) (fun _ h => h) q
    exact h1 _ H1 M1 (a :: O) (stp_own s1 n0) (AtS.own (A := A.w F) x s1 x1 n0 n (md_F f) ha q')
  | _ => exact h1.elim
theorem s_own {y : Str} {pos' : Pos} (hN : X.N.Nodup) (hi : X.N[i]? = some y) (hx : L2.Loc X.env.scope y) (he : PE X e (tE P rc (A.b bw) X.K W ce)) (hs : swapsWith e (some (.Name y pos')) pos.line X.env = pure false) (hf : X.fn y = true ∨ X.env.scope.names.lookup y = some .local) :
    PS X (.Assign [.Name y pos'] e pos) (tS P rc A X.K W (.own bw i ce)) :=
  (ps_set hN hi hx he hs hf).imp fun Dn σ H ⟨F, Hs, O, ρ, S, M, x, h⟩ => own_ok x h
theorem s_ownLc {y : Str} {py : Pos} {elt : Expr} {scope : Scope} {own : List (Str × Nat)} {spos : Pos} (hc : X.calm = true) (hN : X.N.Nodup) (hy : X.N[i]? = some y) (hyl : X.env.scope.names.lookup y = some .local)
    (hsw : swapsWith (.ListComp elt [⟨tg, iter, [], 0⟩] scope pos) (some (.Name y py)) spos.line X.env = pure true) (hi : PI X tg iter (tIt P rc (A.b bw) X.K W cit)) (ok : BlkOk X.N X.env.scope scope own) (hw : ∀ i ∈ g.ix, i ∈ own.map (·.2))
    (hg : ∀ (s : Shared) (H : Hp) (C : Addr) (cl : List (Str × Addr)) (fp : List Addr), PG (X.blk s H scope (compEnvC scope cl C X.env) fp) tg (tG X.K g))
    (he : ∀ (s : Shared) (H : Hp) (C : Addr) (cl : List (Str × Addr)) (fp : List Addr), PE (X.blk s H scope (compEnvC scope cl C X.env) fp) elt (tE P rc (A.b bw) X.K W0 ce)) (hs : ∀ x, foldedSetIterable iter X.env x = pure x) :
    PS X (.Assign [.Name y py] (.ListComp elt [⟨tg, iter, [], 0⟩] scope pos) spos) (tS P rc A X.K W (.own bw i (.lc (own.map (·.2)) g cit ce))) := by
  refine (ps_setLc hc hN hy hyl hsw hi ok hg (fun _ _ _ _ _ => pts_nil) he hs).imp fun Dn σ H ⟨F, Hs, O, ρ, S, M, x, h⟩ => ?_
  obtain ⟨Φ, ρ, S, M, x, h⟩ := own_ok x h
  exact lc_gen blk_lc hw x h
theorem s_ownLcI {y : Str} {py : Pos} {elt : Expr} {scope : Scope} {own : List (Str × Nat)} {spos : Pos} (hc : X.calm = true) (hN : X.N.Nodup) (hy : X.N[i]? = some y) (hyl : X.env.scope.names.lookup y = some .local)
    (hsw : swapsWith (.ListComp elt [⟨tg, iter, [c], 0⟩] scope pos) (some (.Name y py)) spos.line X.env = pure true) (hi : PI X tg iter (tIt P rc (A.b bw) X.K W cit)) (ok : BlkOk X.N X.env.scope scope own) (hw : ∀ i ∈ g.ix, i ∈ own.map (·.2))
    (hg : ∀ (s : Shared) (H : Hp) (C : Addr) (cl : List (Str × Addr)) (fp : List Addr), PG (X.blk s H scope (compEnvC scope cl C X.env) fp) tg (tG X.K g))
    (ht : ∀ (s : Shared) (H : Hp) (C : Addr) (cl : List (Str × Addr)) (fp : List Addr), PT (X.blk s H scope (compEnvC scope cl C X.env) fp) c (tT P rc (A.b bw) X.K W0 cc))
    (he : ∀ (s : Shared) (H : Hp) (C : Addr) (cl : List (Str × Addr)) (fp : List Addr), PE (X.blk s H scope (compEnvC scope cl C X.env) fp) elt (tE P rc (A.b bw) X.K W0 ce)) (hs : ∀ x, foldedSetIterable iter X.env x = pure x) :
    PS X (.Assign [.Name y py] (.ListComp elt [⟨tg, iter, [c], 0⟩] scope pos) spos) (tS P rc A X.K W (.own bw i (.lcI (own.map (·.2)) g cit cc ce))) := by
  refine (ps_setLc hc hN hy hyl hsw hi ok hg (fun s H C cl fp => pts_one (ht s H C cl fp)) he hs).imp fun Dn σ H ⟨F, Hs, O, ρ, S, M, x, h⟩ => ?_
  obtain ⟨Φ, ρ, S, M, x, h⟩ := own_ok x h
  exact lc_gen blk_lcI hw x h
/-- a list that isn't read any more as a list of one's own -/
theorem ss_frz (h : PSs X sts (tSs P rc A X.K W css)) : PSs X sts (tSs P rc A X.K W (.cons (.frz i) css)) := by
  refine h.imp fun Dn σ H ⟨F, Hs, O, ρ, S, M, x, h⟩ => ?_
  simp only [evSs, evS] at h
  cases e : ρ[i]? with
  | none => rw [e] at h; exact h.elim
  | some s =>
    rw [e] at h
    cases s with
    | own ds =>
      obtain ⟨O', s', x'⟩ := x.frz e
      exact ⟨F, Hs, O', _, S, M, x', PostS.rebase h s'⟩
    | _ => exact h.elim
/-- x.append(e) -/
theorem s_apn {y : Str} {x : Str} {p apos cpos : Pos} (hN : X.N[i]? = some y) (hv : Vis X.env.scope y) (hd : (y == ("__debug__" : Str)) = false) (hcd : (y == ("__classdict__" : Str)) = false) (hx : x = "append") (he : PE X e (tE P rc (A.b bw) X.K W ce)) (hes : starEach [e] X.env = (false, eval e X.env) :: starEach [] X.env)
    (hfew : ((backTo cpos (starEach [e] X.env)).all (fun x => !x.1) && (backToKw cpos (keywordEach [] X.env)).all (fun x => x.1.isSome)
      && decide ([e].length + ([] : List Keyword).length + (if ([] : List Keyword).isEmpty then 0 else 1) < 30)) = true) (hline : (apos.endLine == cpos.line) = true) (hplain : (backTo cpos (starEach [] X.env)).any (·.1) = false)
    (hs : swapsWith (.Call (.Attribute (.Name y p) x apos) [e] [] cpos) none pos.line X.env = pure false) :
    PS X (.Expr (.Call (.Attribute (.Name y p) x apos) [e] [] cpos) pos) (tS P rc A X.K W (.apn bw i ce)) := by
  subst hx
  refine (ps_expr (pe_bm PySem.F.plainAttrs_list PySem.F.slot_list_append PySem.F.type_list_append mt_append (pe_var hN hv hd hcd) (pa_cons he pa_nil hes) rfl hfew hline hes hplain) hs).imp fun Dn σ H ⟨F, Hs, O, ρ, S, M, x, h⟩ => ?_
  simp only [evS] at h
  cases e1 : ρ[i]? with
  | none => rw [e1] at h; exact h.elim
  | some s =>
    rw [e1] at h
    cases s with
    | own ds =>
      obtain ⟨a, vs, ei, m, ha, r⟩ := x.ow i ds e1
      refine ⟨.ref a, ei, .inl ⟨rfl, _, .of ha⟩, _, ρ, S, M, x.see bw, ?_⟩
      refine Post.valV (PostS.flow (A := A.w F) (b := bw) x h fun d S1 v H1 M1 s1 x1 rd h1 => ?_)
      obtain ⟨hb, h1⟩ := PostS.ifP h1
      obtain ⟨a', vs', ei', m', ha', r'⟩ := x1.ow i ds e1
      rw [ei] at ei'
      cases ei'
      obtain ⟨s2, x2⟩ := AtS.chg (A := A.w F) x1 e1 ei ha' m' (es := ds ++ [d]) (us := vs' ++ [v]) (r'.append (.cons (keepD (A := A.w F) hb.1 rd) .nil))
      exact ⟨a, vs', v, rfl, rfl, ha', by rw [← r'.length]; exact hb.2, h1 _ _ M1 O s2 x2⟩
    | _ => exact h.elim
/-- x[k] = e, x one's own -/
theorem s_setO {y : Str} {p p2 : Pos} {ck : E} (hN : X.N[i]? = some y) (hv : Vis X.env.scope y) (hd : (y == ("__debug__" : Str)) = false) (hcd : (y == ("__classdict__" : Str)) = false) (hi : PE X a (tE P rc (A.b true) X.K W ck)) (he : PE X e (tE P rc (A.b bw) X.K W ce))
    (ha : ∀ v, assign (.Subscript (.Name y p) a p2) X.env v = (do
      let ov ← holding [v] (eval (.Name y p) X.env)
      let iv ← holding [v, ov] (eval a X.env)
      standAt p2
      holding [v, ov, iv] (setItem ov iv v)
      release [v, ov, iv] [])) (hs : swapsWithSole [.Subscript (.Name y p) a p2] e pos.line X.env = pure false) (hw : swappedStores [.Subscript (.Name y p) a p2] e X.env = pure none)
    (h1 : (assignEach [.Subscript (.Name y p) a p2] X.env).map (·.2) = [assign (.Subscript (.Name y p) a p2) X.env]) : PS X (.Assign [.Subscript (.Name y p) a p2] e pos) (tS P rc A X.K W (.setO bw i ck ce)) := by
  refine (ps_asg he (pg_sub (pe_var hN hv hd hcd) hi set_list ha) hs hw h1).imp fun Dn σ H ⟨F, Hs, O, ρ, S, M, x, h⟩ => ⟨_, ρ, S, M, x.see bw, ?_⟩
  refine Post.valV (PostS.flow (A := A.w F) (b := bw) x h fun d S1 v H1 M1 s1 x1 rd h1 => ?_)
  cases e1 : ρ[i]? with
  | none => rw [e1] at h1; exact h1.elim
  | some s =>
    rw [e1] at h1
    cases s with
    | own ds =>
      obtain ⟨aa, vs, ei, m, haa, r⟩ := x1.ow i ds e1
      refine ⟨.ref aa, ei, _, ρ, S1, M1, x1.see true, ?_⟩
      refine PostS.flow (A := A.w F) (b := true) x1 h1 fun yk S2 u H2 M2 s2 x2 rk h2 => ?_
      cases ek : intR yk with
      | none => rw [ek] at h2; exact h2.elim
      | some k =>
        rw [ek] at h2
        have h2 : PostS (A.w F) X.K W Hs Dn O M2 H2 (match L2.ixN ds.length k with
          | some j => if brwB bw d = true then .ok (.next (ρ.set i (.own (ds.set j d)))) S2 else .no
          | none => .no) := h2
        cases ej : L2.ixN ds.length k with
        | none => rw [ej] at h2; exact h2.elim
        | some j =>
          rw [ej] at h2
          obtain ⟨hb, h2⟩ := PostS.ifP h2
          obtain ⟨a', vs', ei', m', ha', r'⟩ := x2.ow i ds e1
          rw [ei] at ei'
          cases ei'
          obtain ⟨s3, x3⟩ := AtS.chg (A := A.w F) x2 e1 ei ha' m' (es := ds.set j d) (us := vs'.set j v) (r'.set j ((keepD (A := A.w F) hb rd).mono s2))
          refine ⟨aa, vs', k, j, rfl, intR_ok ek rk, ha', by rw [← r'.length]; exact ej, h2 _ _ M2 O s3 x3⟩
    | _ => exact h1.elim
end
end Pl
/-! Statements: stores into objects, loops, raise, try. -/
namespace Pl
open PySem PySem.Spec
open PyProof.Rows hiding St
open L2
section
variable {P : Pg} {rc : Nat → List D → Sto → O R} {A : Adr} {W : WX} {X : Cx} {pos : Pos} {a b c e o tg iter : Expr} {ca cb cc ce co : E} {st : Stmt} {sts body : List Stmt} {cs : S} {css cs1 cs2 : Ss} {g : G} {cit : It} {bw : Bool} {i : Nat}
def tsD : TSet := fun o i v H Q => ∃ a H', o = .ref a ∧ DPut H a i v H' ∧ Q H'
theorem set_dict (hu : X.A.units + 1 < cLine) : PSet X tsD := by
  intro pins s σ H o i v ov iv u Q I ro ri rv h
  obtain ⟨a, H', rfl, g, q⟩ := h
  obtain rfl : ov = Value.ref a := ro
  exact d_setItem hu I g ri rv fun s' I' => ⟨H', I', q⟩
def tsAny : TSet := fun o i v H Q => rSetL o i v H Q ∨ tsD o i v H Q
theorem set_any (hu : X.A.units + 1 < cLine) : PSet X tsAny := by
  intro pins s σ H o i v ov iv u Q I ro ri rv h
  rcases h with h | h
  · exact set_list pins s σ H o i v ov iv u Q I ro ri rv h
  · exact set_dict hu pins s σ H o i v ov iv u Q I ro ri rv h
theorem putR_ok {A : Adr} {K : PySem.W.Frag} {M O : List Addr} {H H0 Hs : Hp} {S S' : Sto} {σ : St} {ρ : Loc} {i : Nat} {a : Addr} {y : R} {d : D} {u v : V} {Q : Hp → Prop} (x : AtS A K Hs O σ H ρ S M) (e : putR S i y d = some S') (ha : M[i]? = some a) (ry : RR A K M H H0 y u) (rd : RD A K M H d v)
    (q : ∀ H', Stp K M H M H' → AtS A K Hs O σ H' ρ S' M → Q H') : tsAny (.ref a) u v H Q := by
  unfold putR at e
  by_cases hn : noL d = true
  case neg => rw [if_neg hn] at e; cases e
  rw [if_pos hn] at e
  split at e
  · next ds e1 =>
    split at e
    · next k =>
      split at e
      · next j ej =>
        cases e
        cases ry
        obtain ⟨nl, ws, h1, r1⟩ := x.hr.at_ e1 ha
        have s1 : Stp K M H M (upd H a (.lst (ws.set j v))) := stp_at x.hr e1 ha
        obtain ⟨s2, h2⟩ := set_hr (u := .lst (ws.set j v)) x.hr e1 ha (o' := .lst (ds.set j d)) ⟨noLs_mem.mpr fun z hz => (List.mem_or_eq_of_mem_set hz).elim (noLs_mem.mp nl z) (fun e => by rw [e]; exact hn), _, upd_same, (r1.set j rd).mono s1⟩
        exact .inl ⟨a, ws, k, j, rfl, rfl, h1, by rw [← r1.length]; exact ej, q _ s2 (x.mono s2 h2)⟩
      · cases e
    · cases e
  · next kvs e1 =>
    split at e
    · next d2 =>
      split at e
      · next k ek =>
        split at e
        · next hl =>
          cases e
          obtain ⟨nl, ws, h1, r1⟩ := x.hr.at_ e1 ha
          have hk := keyD_ok ek (show RD A K M H d2 u from ry)
          subst hk
          have s1 : Stp K M H M (upd H a (.dK (putK ws k v))) := stp_at x.hr e1 ha
          obtain ⟨s2, h2⟩ := set_hr (u := .dK (putK ws k v)) x.hr e1 ha (o' := .dk (putM k d kvs)) ⟨noL_put nl hn, _, upd_same, (r1.putM rd).mono s1⟩
          exact .inr ⟨a, _, rfl, .inl ⟨ws, k, h1, rfl, by rw [← r1.len]; exact hl, rfl⟩, q _ s2 (x.mono s2 h2)⟩
        · cases e
      · cases e
    · cases e
  · next kvs e1 =>
    split at e
    · next es =>
      split at e
      · next k ek =>
        split at e
        · next hl =>
          cases e
          obtain ⟨nl, ws, h1, r1⟩ := x.hr.at_ e1 ha
          cases ry with
          | tup hb rs =>
            have hk := keyDs_ok ek rs
            subst hk
            have s1 : Stp K M H M (upd H a (.dT (putK ws k v))) := stp_at x.hr e1 ha
            obtain ⟨s2, h2⟩ := set_hr (u := .dT (putK ws k v)) x.hr e1 ha (o' := .dt (putM k d kvs)) ⟨noL_put nl hn, _, upd_same, (r1.putM rd).mono s1⟩
            exact .inr ⟨a, _, rfl, .inr ⟨ws, k, _, h1, rfl, hb, by rw [← r1.len]; exact hl, rfl⟩, q _ s2 (x.mono s2 h2)⟩
        · cases e
      · cases e
    · cases e
  · cases e
theorem s_setIx {p2 : Pos} (hu : X.A.units + 65 < cLine) (ho : PE X o (tE P rc (A.b true) X.K W co)) (hi : PE X a (tE P rc (A.b true) X.K W ca)) (he : PE X e (tE P rc (A.b true) X.K W ce))
    (ha : ∀ v, assign (.Subscript o a p2) X.env v = (do
      let ov ← holding [v] (eval o X.env)
      let iv ← holding [v, ov] (eval a X.env)
      standAt p2
      holding [v, ov, iv] (setItem ov iv v)
      release [v, ov, iv] [])) (hs : swapsWithSole [.Subscript o a p2] e pos.line X.env = pure false) (hw : swappedStores [.Subscript o a p2] e X.env = pure none)
    (h1 : (assignEach [.Subscript o a p2] X.env).map (·.2) = [assign (.Subscript o a p2) X.env]) : PS X (.Assign [.Subscript o a p2] e pos) (tS P rc A X.K W (.asgIx co ca ce)) := by
  refine (ps_asg he (pg_sub ho hi (set_any (by omega)) ha) hs hw h1).imp fun Dn σ H ⟨F, Hs, O, ρ, S, M, x, h⟩ => ⟨_, ρ, S, M, x.see true, ?_⟩
  refine Post.valV (PostS.flow (A := A.w F) (b := true) x h fun d S1 v H1 M1 s1 x1 rd h1 => ?_)
  refine ⟨_, ρ, S1, M1, x1.see true, ?_⟩
  refine PostS.flow (A := A.w F) (b := true) x1 h1 fun y S2 ov H2 M2 s2 x2 ry h2 => ?_
  refine ⟨_, ρ, S2, M2, x2.see true, ?_⟩
  refine PostS.flow (A := A.w F) (b := true) x2 h2 fun z S3 iv H3 M3 s3 x3 rz h3 => ?_
  split at h3
  · next j =>
    cases ep : putR S3 j z d with
    | none => rw [ep] at h3; exact h3.elim
    | some S4 =>
      rw [ep] at h3
      cases ry with
      | ref hj =>
        have hn : noL d = true := by
          unfold putR at ep
          split at ep
          · assumption
          · cases ep
        have rz' : RR (A.w F) X.K M3 H3 H2 z iv := ret_ok (A := A.w F) (b := true) (fun _ h => h) rz
        exact putR_ok x3 ep (s3.at_ hj) rz' (RD.noL (A := (A.b true).w F) hn ((RD.mono s2 rd).mono s3)) fun H' s' x' => h3 σ H' M3 O s'.toS x'
  · exact h3.elim
/-! ### loops -/
theorem loop_ok {A : Adr} {K : PySem.W.Frag} {Dn : Ends} {O O1 M M1 : List Addr} {H H1 Hs : Hp} {ks : List (Nat × Ob)} {f : D → Loc → Sto → Pl.O Flow} {xs : List D} {o : Pl.O Flow} (s1 : StpS K O1 M1 H1 O M H)
    (h : PostS A K W Hs Dn O M H (match o with
      | .ok (.next r') S' => forL ks f xs r' S'
      | .ok (.cont r') S' => forL ks f xs r' S'
      | .ok (.brk r') S' => .ok (.next r') S'
      | o => o)) :
    PostS A K W Hs { Dn with nx := fun σ H => ∃ O ρ S M, AtS A K Hs O σ H ρ S M ∧ StpS K O1 M1 H1 O M H ∧ PostS A K W Hs Dn O M H (forL ks f xs ρ S), ct := fun σ H => ∃ O ρ S M, AtS A K Hs O σ H ρ S M ∧ StpS K O1 M1 H1 O M H ∧ PostS A K W Hs Dn O M H (forL ks f xs ρ S), bk := Dn.nx } O M H o := by
  cases o with
  | ex k S' => exact h
  | no => exact h
  | ok fl S' =>
    cases fl with
    | next ρ' => exact fun σ' H' M' O' s' x' => ⟨O', ρ', S', M', x', s1.trans s', PostS.rebase h s'⟩
    | brk ρ' => exact h
    | cont ρ' => exact fun σ' H' M' O' s' x' => ⟨O', ρ', S', M', x', s1.trans s', PostS.rebase h s'⟩
    | ret r => exact h
    | raise k ρ' => exact h
end
end Pl
/-! Several except clauses, each of one class or of a pair of classes. -/
namespace Pl
open PySem PySem.Spec
open PyProof.Rows hiding St
open L2
abbrev Hnd := Addr → Value → Option Addr → TS
/-- the wish of clauses that name several classes -/
def wClauses (K : PySem.W.Frag) (Wo : WX) (En : Ends) : List (List Value × Hnd) → WX
  | [] => Wo
  | (cs, ts) :: r => fun cls d σ H => ∃ b, PySem.W.exmAny K cls cs = some b ∧ (b = true → ∀ a, H a = none → ts a cls d En σ H) ∧ (b = false → wClauses K Wo En r cls d σ H)
inductive HdT (X : Cx) : List ExceptHandler → List (List Value × Hnd) → Prop
  | nil : HdT X [] []
  | one {x : Str} {c : Value} {ts : Hnd} {st0 : Stmt} {sts : List Stmt} {p1 p2 : Pos} {more : List ExceptHandler} {l : List (List Value × Hnd)} (n1 : Names X x c)
      (su : ∀ (a : Addr) (ob : Obj) (cls : Value) (d : Option Addr) (pn : List (Addr × Obj)), PSs (X.suite a ((a, ob) :: pn)) (st0 :: sts) (ts a cls d)) (r : HdT X more l) : HdT X (.ExceptHandler (some (.Name x p1)) none (st0 :: sts) p2 :: more) (([c], ts) :: l)
  | two {x y : Str} {c e : Value} {ts : Hnd} {st0 : Stmt} {sts : List Stmt} {p1 p2 p3 p4 : Pos} {kk : Nat} {more : List ExceptHandler} {l : List (List Value × Hnd)} (n1 : Names X x c) (n2 : Names X y e)
      (su : ∀ (a : Addr) (ob : Obj) (cls : Value) (d : Option Addr) (pn : List (Addr × Obj)), PSs (X.suite a ((a, ob) :: pn)) (st0 :: sts) (ts a cls d)) (r : HdT X more l) : HdT X (.ExceptHandler (some (.Tuple [.Name x p1, .Name y p3] kk p4)) none (st0 :: sts) p2 :: more) (([c, e], ts) :: l)
theorem fly_keeps {B h h' : Heap} {l : List Env} {a : Addr} {Z : Obj → Prop} (f : HandSPX.FlyingZ B l a Z h) (kp : ∀ b u, h.get? b = some u → h'.get? b = some u) : HandSPX.FlyingZ B l a Z h' := by
  obtain ⟨c1, c0, cf, ob, us, tb, ot, ts, k1, k2, k3, k4, k5, k6, k7, k8, k9⟩ := f
  exact ⟨fun b u e => kp b u (c1 b u e), c0, Heap.FunFrames.of_keeps (fun b u e _ => ⟨u, kp b u e, rfl⟩) cf, ob, us, tb, ot, ts, kp _ _ k1, k2, k3, k4, k5, k6, kp _ _ k7, k8, k9⟩
section
variable {X : Cx}
theorem name_ok {x : Str} {c : Value} {p : Pos} {pins : List (Addr × Obj)} {σ : L2.St} {H : Hp} {s : Shared} {Q : Value → Shared → Prop} {E : Value → Shared → Prop} (n : Names X x c) (I : Inv X pins σ H s) (q : Q c s) : wpAny (model X.prog X.w) X.A (eval (.Name x p) X.env) Q E s := by
  obtain ⟨g, dd, m | ⟨m, v, ne⟩⟩ := n
  · exact ld_glob I g m q dd
  · exact ld_blt I g m v q ne dd
variable {body : List Stmt} {hd0 : ExceptHandler} {hds : List ExceptHandler} {l : List (List Value × Hnd)} {pos : Pos} {tb : WX → TS} {Wo : WX}
theorem ps_tryT (hst : X.stack = X.env :: X.outer) (hf : X.env.frame = some X.env.locals) (tk : Takes X Wo)
    (hb : ∀ (W : WX) (pn : List (Addr × Obj)) (xe : Value → Shared → Prop), Takes (X.tr pn xe) W → PassesOwn (model X.prog X.w) X.A X.env xe → PSs (X.tr pn xe) body (tb W))
    (hh : HdT X (hd0 :: hds) l) : PS X (.Try body (hd0 :: hds) [] [] pos) (fun En σ H => tb (wClauses X.K Wo En l) En σ H) := by
  refine ⟨fun pins s σ H En I h => wpAny_Try_except ?_⟩
  have ok := I.ok
  have hfr : X.A.frames = some (X.env :: X.outer) := ok.frames.trans (congrArg some hst)
  refine wpAny_mono ((hb (wClauses X.K Wo En l) (X.pn ++ pins) (fun u t => wpAny (model X.prog X.w) X.A (noteFrame u X.env) (fun _ t1 => wpAny (model X.prog X.w) X.A (setFlight u none) (fun _ t2 =>
    wpAny (model X.prog X.w) X.A (handleBy u X.env (hd0 :: hds)) (SP X pins En) X.xe t2) X.xe t1) X.xe t) (fun u t air => ?_) PassesOwn.looking).run [] s σ H En (I.toTry _) h) (fun f t ends => ?_) (fun _ _ z => z)
  · obtain ⟨a, B, sI, pn0, σ1, H1, cls, d, rfl, J0, nb, up, sky, na, os, ag, w⟩ := air
    have J : Inv X pins σ1 H1 sI := J0.ofTry ok
    refine Sky.land Zc.steady hfr hf (hst ▸ sky) fun h1 f1 up1 => ?_
    have dry : ∀ {h : Heap}, HandSPX.FlyingZ B (X.env :: X.outer) a (Zc cls d) h → ∃ ob us, h.get? a = some ob ∧ Zc cls d ob ∧ ob.data = .fields us ∧ a ≠ X.env.locals ∧ a ∉ X.fs := fun {h} fl => by
      obtain ⟨ob, us, e1, e2, e3⟩ := fl.there
      have out : a ∉ frs (X.env :: X.outer) := fun hm => by
        obtain ⟨_, o, e, nf⟩ := fl.2.2.1.mem hm
        rw [e1] at e
        cases e
        exact nf _ e3
      refine ⟨ob, us, e1, e2, e3, fun z => out (List.mem_filterMap.mpr ⟨X.env, List.mem_cons_self, z ▸ hf⟩), fun hm => ?_⟩
      obtain ⟨v, m, e⟩ := List.mem_filterMap.mp hm
      exact out (List.mem_filterMap.mpr ⟨v, List.mem_cons_of_mem _ m, e⟩)
    have land : ∀ {h : Heap} {tk' : Nat}, HandSPX.FlyingZ B (X.env :: X.outer) a (Zc cls d) h → sI.heap.UpToSlots h → Inv X pins σ1 H1 { t with heap := h, toks := tk' } := fun fl up => J.landed nb fl.1 up os ag
    have suit : ∀ {h : Heap} {tk' : Nat} {ob : Obj} {us : Array Value}, Inv X pins σ1 H1 { t with heap := h, toks := tk' } → h.get? a = some ob → ob.data = .fields us → a ≠ X.env.locals → a ∉ X.fs → Inv (X.suite a ((a, ob) :: (X.pn ++ pins))) [] σ1 H1 { t with heap := h, toks := tk' } := fun K e1 e2 e3 e4 => K.suite e1 e2 na e3 e4
    -- a clause is entered
    have enter : ∀ {st0 : Stmt} {sts : List Stmt} {ts : Hnd} {p : Pos} {h : Heap} {tk' : Nat} {R : Result → Shared → Prop}, (∀ (a : Addr) (ob : Obj) (cls : Value) (d : Option Addr) (pn : List (Addr × Obj)), PSs (X.suite a ((a, ob) :: pn)) (st0 :: sts) (ts a cls d)) → ts a cls d En σ1 H1 →
        HandSPX.FlyingZ B (X.env :: X.outer) a (Zc cls d) h → sI.heap.UpToSlots h → ∀ h2, HandSPX.FlyingZ B (X.env :: X.outer) a (Zc cls d) h2 → h.UpToSlots h2 →
        wpAny (model X.prog X.w) (X.A.mark (some (.ref a))) (execs (st0 :: sts) X.env) (fun f t6 => SP X pins En f t6) (fun _ _ => False) { t with heap := h2, toks := tk' } := fun {st0 sts ts p h tk' R} su wants f4 up4 h2 f5 up5 => by
      obtain ⟨ob, us, e1, e2, e3, e4, e5⟩ := dry f5
      have S := suit (land (tk' := tk') f5 (up4.trans up5)) e1 e3 e4 e5
      refine wpAny_mono ((su a ob cls d (X.pn ++ pins)).run [] _ _ H1 _ S wants) (fun f t6 z => ?_) (fun _ _ z => z.elim)
      cases f with
      | next =>
        obtain ⟨_, _, S6, q⟩ := z
        exact ⟨_, _, S6.unsuite ok, q⟩
      | brk =>
        obtain ⟨_, _, S6, q⟩ := z
        exact ⟨_, _, S6.unsuite ok, q⟩
      | cont =>
        obtain ⟨_, _, S6, q⟩ := z
        exact ⟨_, _, S6.unsuite ok, q⟩
      | ret u =>
        obtain ⟨_, _, _, S6, r, q⟩ := z
        exact ⟨_, _, _, S6.unsuite ok, r, q⟩
    have go : ∀ {more : List ExceptHandler} {l' : List (List Value × Hnd)}, HdT X more l' → ∀ (h3 : Heap) (tk' : Nat), HandSPX.FlyingZ B (X.env :: X.outer) a (Zc cls d) h3 → sI.heap.UpToSlots h3 → wClauses X.K Wo En l' cls d σ1 H1 →
        wpAny (model X.prog X.w) X.A (handleBy (.ref a) X.env more) (SP X pins En) X.xe { t with heap := h3, toks := tk' } := by
      intro more l' hk
      induction hk with
      | nil =>
        intro h3 tk' f3 up3 wo
        refine wpAny_handleBy_nil ?_
        obtain ⟨_, _, _, ob, us, tr, _, _, e1, _, e3, e4, _⟩ := id f3
        unfold PySem.passOn
        refine wpAny_bind (wpAny_field e1 e3 e4 ?_)
        rw [if_neg (by simp), hf]
        have fin : wpAny (model X.prog X.w) X.A (setFlight (.ref a) (some X.env.locals)) (fun _ t4 => wpAny (model X.prog X.w) X.A (throw (.ref a) : Sem PySem.Flow) (SP X pins En) X.xe t4) X.xe { t with heap := h3, toks := tk' } :=
          HandSPX.setFlight_upZ f3 fun h4 held up4 => wpAny_throw (tk _ _ ⟨a, B, sI, pins, σ1, H1, cls, d, rfl, J, nb, up3.trans up4, .inr (.inr (hst ▸ held)), na, os, ag, wo⟩)
        first
          | exact wpAny_bind fin
          | exact wpAny_bind (wpAny_pure (wpAny_bind fin))
      | @one x c ts st0 sts p1 p2 more l n1 su r ih =>
        rintro h3 tk' f3 up3 ⟨b, hb1, yes, no⟩
        obtain ⟨ob, us, e1, e2, e3, e4, e5⟩ := dry f3
        have J3 := land (tk' := tk') f3 up3
        refine wpAny_handleBy_cons (codeAny_handlers_test ?_) (by intro q; cases q)
        have LT : PySem.W.Looks (model X.prog X.w) h3 (typeOf (.ref a)) cls := fun A Q E s k q => wpAny_typeOf_ref (k _ _ e1) (by rw [e2.1]; exact q)
        obtain ⟨b1, d1, g1, g2, g3⟩ := PySem.W.exmAny_cons hb1
        cases g2
        rw [Bool.or_false] at g3
        subst g3
        refine name_ok (X := X.suite a ((a, ob) :: (X.pn ++ pins))) n1 (suit J3 e1 e3 e4 e5) ((PySem.W.exm_one (M := model X.prog X.w) J3.kIn LT g1).here ?_)
        cases b with
        | true =>
          refine codeAny_handlers_suite (HandSPX.lands_againZ f3 fun h4 f4 up4 => ?_)
          exact wpAny_mono (enter (p := p2) (R := fun _ _ => True) su (yes rfl a na) f3 up3 h4 f4 up4) (fun _ _ z => z) (fun _ _ z => z.elim)
        | false => exact ih h3 tk' f3 up3 (no rfl)
      | @two x y c e ts st0 sts p1 p2 p3 p4 kk more l n1 n2 su r ih =>
        rintro h3 tk' f3 up3 ⟨b, hb1, yes, no⟩
        obtain ⟨ob, us, e1, e2, e3, e4, e5⟩ := dry f3
        have J3 := land (tk' := tk') f3 up3
        have S3 := suit J3 e1 e3 e4 e5
        have LT : PySem.W.Looks (model X.prog X.w) h3 (typeOf (.ref a)) cls := fun A Q E s k q => wpAny_typeOf_ref (k _ _ e1) (by rw [e2.1]; exact q)
        have kp : ∀ q o, h3.get? q = some o → (h3.push { cls := .type "tuple", data := .seq [c, e].toArray }).get? q = some o := fun _ _ z => Heap.get?_push_of_some _ z
        have f4 := fly_keeps f3 kp
        have up4 : sI.heap.UpToSlots (h3.push { cls := .type "tuple", data := .seq [c, e].toArray }) := up3.trans (Heap.UpToSlots.of_keeps kp)
        refine wpAny_handleBy_cons (codeAny_handlers_test ?_) (by intro q; cases q)
        refine wpAny_Tuple (wpAny_items_cons (name_ok (X := X.suite a ((a, ob) :: (X.pn ++ pins))) n1 S3 (wpAny_items_cons (name_ok (X := X.suite a ((a, ob) :: (X.pn ++ pins))) n2 S3 (wpAny_items_nil ⟨by size_fits, ?_⟩)))))
        refine (PySem.W.exm_tup2 (M := model X.prog X.w) (J3.kIn.keeps kp) (LT.keeps kp) (Heap.get?_push_size h3 rfl) hb1).here ?_
        cases b with
        | true =>
          refine codeAny_handlers_suite (HandSPX.lands_againZ f4 fun h5 f5 up5 => ?_)
          exact wpAny_mono (enter (p := p2) (R := fun _ _ => True) su (yes rfl a na) f4 up4 h5 f5 up5) (fun _ _ z => z) (fun _ _ z => z.elim)
        | false => exact ih _ tk' f4 up4 (no rfl)
    exact go hh h1 t.toks f1 (up.trans up1) w
  · cases f with
    | next =>
      obtain ⟨_, _, K, q⟩ := ends
      exact wpAny_execs_nil ⟨_, _, K.ofTry ok, q⟩
    | brk =>
      obtain ⟨_, _, K, q⟩ := ends
      exact ⟨_, _, K.ofTry ok, q⟩
    | cont =>
      obtain ⟨_, _, K, q⟩ := ends
      exact ⟨_, _, K.ofTry ok, q⟩
    | ret u =>
      obtain ⟨_, _, _, K, r, q⟩ := ends
      exact ⟨_, _, _, K.ofTry ok, r, q⟩
end
end Pl
/-! Statements: loops, raise, try. -/
namespace Pl
open PySem PySem.Spec
open PyProof.Rows hiding St
open L2
section
variable {P : Pg} {rc : Nat → List D → Sto → O R} {A : Adr} {W : WX} {X : Cx} {pos : Pos} {a b c e o tg iter : Expr} {ca cb cc ce co : E} {st : Stmt} {sts body : List Stmt} {cs : S} {css cs1 cs2 : Ss} {g : G} {cit : It} {bw : Bool} {i : Nat}
theorem StpS.frame {K : PySem.W.Frag} {O O' M M' F : List Addr} {H H' : Hp} (s : StpS K O M H O' M' H') : StpS K (O ++ F) M H (O' ++ F) M' H' := ⟨s.ext, fun a o h m n => by
  obtain ⟨h1, h2⟩ := s.keep a o h m fun z => n (List.mem_append_left _ z)
  exact ⟨h1, fun z => (List.mem_append.mp z).elim h2 fun z => n (List.mem_append_right _ z)⟩, s.grow, s.tup, s.frz⟩
theorem s_for (hp : PassesOwn (model X.prog X.w) X.A X.env X.xe) (hc : X.calm = true) (hi : PI X tg iter (tIt P rc (A.b false) X.K W cit)) (hg : PG X tg (tG X.K g)) (hb : PSs X body (tSs P rc A X.K W css)) (hs : ∀ x, foldedSetIterable iter X.env x = pure x) :
    PS X (.For tg iter body [] pos) (tS P rc A X.K W (.fr false g cit css)) := by
  refine (ps_for hp hc hi hg hb hs).imp fun Dn σ H ⟨F, Hs, O, ρ, S, M, x, h⟩ => ⟨_, ρ, S, M, x.see false, ?_⟩
  refine PostS.flow (A := A.w F) (b := false) x h fun sr S1 J H1 M1 s1 x1 ⟨Ps, sv, hp, fx⟩ h1 => ?_
  obtain ⟨_, h1⟩ := PostS.ifP h1
  have hp : Ps (O ++ F) M1 H1 := hp
  refine ⟨fun i m σ H => m = sr.items.length - i ∧ i ≤ sr.items.length ∧ ∃ O' ρ S M, AtS (A.w F) X.K Hs O' σ H ρ S M ∧ StpS X.K O M1 H1 O' M H ∧ PostS (A.w F) X.K W Hs Dn O' M H (forL sr.keep (fun d r S => match setG S g (.v d) r with
    | some r' => evSs P rc css r' S
    | none => .no) (sr.items.drop i) ρ S), ⟨_, rfl, Nat.zero_le _, O, ρ, S1, M1, x1, .refl, h1⟩, ?_⟩
  rintro i m σ2 H2 ⟨rfl, hi, O2, ρ2, S2, M2, x2, s2, p2⟩
  have hp2 := sv.keep _ _ _ _ _ _ hp (StpS.frame (F := F) s2)
  by_cases hlt : i < sr.items.length
  · rw [List.drop_eq_getElem_cons hlt] at p2
    unfold forL at p2
    split at p2
    · next hk =>
      obtain ⟨hgo, hy⟩ := sv.go (O2 ++ F) i sr.items[i] S2 M2 H2 x2.hr.free hp2 hk (List.getElem?_eq_getElem hlt)
      refine .inr ⟨hgo, fun σ H => ∃ O' ρ S M, AtS (A.w F) X.K Hs O' σ H ρ S M ∧ StpS X.K O M1 H1 O' M H ∧ PostS (A.w F) X.K W Hs Dn O' M H (forL sr.keep (fun d r S => match setG S g (.v d) r with
        | some r' => evSs P rc css r' S
        | none => .no) (sr.items.drop (i + 1)) ρ S), fun σ' H' p' => ⟨_, by omega, rfl, by omega, p'⟩, fun xv H3 yl => ?_⟩
      obtain ⟨s3, hr3, rd⟩ := hy xv H3 yl
      have x3 : AtS (A.w F) X.K Hs O2 σ2 H3 ρ2 S2 M2 := x2.mono s3 (HR.free (A := (A.b false).w (O2 ++ F)) hr3)
      have rd3 : RD ((A.w F).w (O2 ++ F)) X.K M2 H3 sr.items[i] xv := RD.sub (A := (A.b false).w (O2 ++ F)) (fun _ h => h) rd
      cases eg : setG S2 g (.v sr.items[i]) ρ2 with
      | none => rw [eg] at p2; exact p2.elim
      | some ρ4 =>
        rw [eg] at p2
        refine setG_ats (A := A.w F) (H0 := H3) x3 eg rd3 fun σ4 x4 => ⟨F, Hs, O2, ρ4, S2, M2, x4, ?_⟩
        exact loop_ok (s2.trans s3.toS) (PostS.rebase p2 s3.toS)
    · exact p2.elim
  · have e : i = sr.items.length := by omega
    subst e
    rw [List.drop_length] at p2
    unfold forL at p2
    split at p2
    · next hk => exact .inl ⟨sv.stop (O2 ++ F) S2 M2 H2 x2.hr.free hp2 hk, p2 σ2 H2 M2 O2 .refl x2⟩
    · exact p2.elim
/-- for k in range(..) of what is lent -/
theorem s_forB (hp : PassesOwn (model X.prog X.w) X.A X.env X.xe) (hc : X.calm = true) (hi : PI X tg iter (tIt P rc (A.b true) X.K W cit)) (hg : PG X tg (tG X.K g)) (hb : PSs X body (tSs P rc A X.K W css)) (hs : ∀ x, foldedSetIterable iter X.env x = pure x) :
    PS X (.For tg iter body [] pos) (tS P rc A X.K W (.fr true g cit css)) := by
  refine (ps_for hp hc hi hg hb hs).imp fun Dn σ H ⟨F, Hs, O, ρ, S, M, x, h⟩ => ⟨_, ρ, S, M, x.see true, ?_⟩
  refine PostS.flow (A := A.w F) (b := true) x h fun sr S1 J H1 M1 s1 x1 ⟨Ps, sv, _, fx⟩ h1 => ?_
  obtain ⟨⟨hnl, hfx⟩, h1⟩ := PostS.ifP h1
  have hnl : ∀ x ∈ sr.items, noL x = true := noLs_mem.mp hnl
  have hpF := fx (by simpa using hfx)
  refine ⟨fun i m σ H => m = sr.items.length - i ∧ i ≤ sr.items.length ∧ ∃ O' ρ S M, AtS (A.w F) X.K Hs O' σ H ρ S M ∧ StpS X.K O M1 H1 O' M H ∧ PostS (A.w F) X.K W Hs Dn O' M H (forL sr.keep (fun d r S => match setG S g (.v d) r with
    | some r' => evSs P rc css r' S
    | none => .no) (sr.items.drop i) ρ S), ⟨_, rfl, Nat.zero_le _, O, ρ, S1, M1, x1, .refl, h1⟩, ?_⟩
  rintro i m σ2 H2 ⟨rfl, hi, O2, ρ2, S2, M2, x2, s2, p2⟩
  by_cases hlt : i < sr.items.length
  · rw [List.drop_eq_getElem_cons hlt] at p2
    unfold forL at p2
    split at p2
    · next hk =>
      obtain ⟨hgo, hy⟩ := sv.go F i sr.items[i] S2 M2 H2 x2.hr.free (hpF _ _ _) hk (List.getElem?_eq_getElem hlt)
      refine .inr ⟨hgo, fun σ H => ∃ O' ρ S M, AtS (A.w F) X.K Hs O' σ H ρ S M ∧ StpS X.K O M1 H1 O' M H ∧ PostS (A.w F) X.K W Hs Dn O' M H (forL sr.keep (fun d r S => match setG S g (.v d) r with
        | some r' => evSs P rc css r' S
        | none => .no) (sr.items.drop (i + 1)) ρ S), fun σ' H' p' => ⟨_, by omega, rfl, by omega, p'⟩, fun xv H3 yl => ?_⟩
      obtain ⟨s3, hr3, rd⟩ := hy xv H3 yl
      have x3 : AtS (A.w F) X.K Hs O2 σ2 H3 ρ2 S2 M2 := x2.mono s3 (HR.free (A := (A.b true).w F) hr3)
      have rd3 : RD ((A.w F).w (O2 ++ F)) X.K M2 H3 sr.items[i] xv := RD.noL (A := (A.b true).w F) (hnl _ (List.getElem_mem hlt)) rd
      cases eg : setG S2 g (.v sr.items[i]) ρ2 with
      | none => rw [eg] at p2; exact p2.elim
      | some ρ4 =>
        rw [eg] at p2
        refine setG_ats (A := A.w F) (H0 := H3) x3 eg rd3 fun σ4 x4 => ⟨F, Hs, O2, ρ4, S2, M2, x4, ?_⟩
        exact loop_ok (s2.trans s3.toS) (PostS.rebase p2 s3.toS)
    · exact p2.elim
  · have e : i = sr.items.length := by omega
    subst e
    rw [List.drop_length] at p2
    unfold forL at p2
    split at p2
    · next hk => exact .inl ⟨sv.stop F S2 M2 H2 x2.hr.free (hpF _ _ _) hk, p2 σ2 H2 M2 O2 .refl x2⟩
    · exact p2.elim
theorem s_while {n : Nat} (hp : PassesOwn (model X.prog X.w) X.A X.env X.xe) (hc : PT X c (tT P rc (A.b true) X.K W cc)) (hb : PSs X body (tSs P rc A X.K W css)) : PS X (.While c body [] pos) (tS P rc A X.K W (.whl n cc css)) := by
  refine (ps_while hp hc hb).imp fun Dn σ H ⟨F, Hs, O, ρ, S, M, x, h⟩ => ?_
  refine ⟨fun m σ H => ∃ O ρ S M, AtS (A.w F) X.K Hs O σ H ρ S M ∧ PostS (A.w F) X.K W Hs Dn O M H (whlL (fun r S => boolO (evE P rc cc r S)) (fun r S => evSs P rc css r S) m ρ S), ⟨n, O, ρ, S, M, x, h⟩, ?_⟩
  rintro m σ2 H2 ⟨O2, ρ2, S2, M2, x2, p2⟩
  refine ⟨_, ρ2, S2, M2, x2.see true, ?_⟩
  cases m with
  | zero => exact p2.elim
  | succ m =>
    simp only [whlL] at p2
    have p3 : PostS (A.w F) X.K W Hs Dn O2 M2 H2 (flowO ρ2 (boolO (evE P rc cc ρ2 S2)) fun k S' => if k = true then (match evSs P rc css ρ2 S' with
      | .ok (.next r') S3 => whlL (fun r S => boolO (evE P rc cc r S)) (fun r S => evSs P rc css r S) m r' S3
      | .ok (.cont r') S3 => whlL (fun r S => boolO (evE P rc cc r S)) (fun r S => evSs P rc css r S) m r' S3
      | .ok (.brk r') S3 => .ok (.next r') S3
      | o => o) else .ok (.next ρ2) S') := by
      generalize boolO (evE P rc cc ρ2 S2) = ob at p2 ⊢
      cases ob with
      | no => exact p2
      | ex k S' => exact p2
      | ok k S3 => cases k <;> exact p2
    refine PostS.flow (A := A.w F) (b := true) x2 p3 fun k S3 k' H3 M3 s3 x3 e p4 => ?_
    cases e
    cases k with
    | false =>
      rw [if_neg (by decide)]
      exact p4 σ2 H3 M3 O2 .refl x3
    | true =>
      rw [if_pos rfl]
      refine ⟨fun σ H => ∃ O ρ S M, AtS (A.w F) X.K Hs O σ H ρ S M ∧ PostS (A.w F) X.K W Hs Dn O M H (whlL (fun r S => boolO (evE P rc cc r S)) (fun r S => evSs P rc css r S) m ρ S), fun σ' H' p' => ⟨m, Nat.lt_succ_self _, p'⟩, F, Hs, O2, ρ2, S3, M3, x3, ?_⟩
      rw [if_pos rfl] at p4
      generalize evSs P rc css ρ2 S3 = os at p4
      cases os with
      | ex k S' => exact p4
      | no => exact p4
      | ok fl S' =>
        cases fl with
        | next ρ' => exact fun σ' H' M' O' s' x' => ⟨O', ρ', S', M', x', PostS.rebase p4 s'⟩
        | brk ρ' => exact p4
        | cont ρ' => exact fun σ' H' M' O' s' x' => ⟨O', ρ', S', M', x', PostS.rebase p4 s'⟩
        | ret r => exact p4
        | raise k ρ' => exact p4
/-! ### raise, try -/
/-- the facts of an error's class -/
structure XcOk (X : Cx) (C : Addr) (x : Str) : Prop where
  mg : X.mg x = some (.ref C)
  exc : PySem.W.excIn X.K C He.veBase "ValueError.__new__" = true
  kp : PySem.W.keepIn X.K (.ref C) = true
  sub : PySem.W.subIn X.K (.ref C) (.type "BaseException") = some true
  ty : PySem.W.typeIn X.K (.ref C) = some (.type "type")
theorem s_rse {k : Nat} {x m : Str} {j : Nat} {p p2 p3 : Pos} (hc : X.calm = true) (tk : Takes X W) (q : XcOk X (A.xc k) x) (hg : Gl X x) (hdb : (x == ("__debug__" : Str)) = false) :
    PS X (.Raise (some (.Call (.Name x p) [.Constant (.str m) j p2] [] p3)) none pos) (tS P rc A X.K W (.rse k)) :=
  (ps_raise hc tk (pmk_own PySem.F.excBase_ValueError q.exc q.mg q.kp (raises_own q.sub q.ty) hg hdb)).imp fun Dn σ H ⟨F, Hs, O, ρ, S, M, x, h⟩ => h σ H M O .refl x
/-- the clauses -/
def hsL (P : Pg) (rc : Nat → List D → Sto → O R) (A : Adr) (K : PySem.W.Frag) : Hs → List (List Value × Hnd)
  | .nil => []
  | .cons j b hs => ([.ref (A.xc j)], fun _ _ _ => tSs P rc A K W0 b) :: hsL P rc A K hs
  | .two i j b hs => ([.ref (A.xc i), .ref (A.xc j)], fun _ _ _ => tSs P rc A K W0 b) :: hsL P rc A K hs
theorem suite_ok {Dn : Ends} {F : List Addr} {Hs0 : Hp} {K : PySem.W.Frag} {b : Ss} {O M : List Addr} {H : Hp} {σ : St} {ρ : Loc} {S : Sto} (x : AtS (A.w F) K Hs0 O σ H ρ S M) (h : PostS (A.w F) K W Hs0 Dn O M H (match evSs P rc b ρ S with
    | .ok (.raise _ _) _ => .no
    | o => o)) : tSs P rc A K W0 b Dn σ H := by
  refine ⟨F, Hs0, O, ρ, S, M, x, ?_⟩
  generalize evSs P rc b ρ S = o at h
  cases o with
  | ok f S' =>
    cases f with
    | raise k' r' => exact h.elim
    | _ => exact h
  | _ => exact h
theorem many_ok {Dn : Ends} {F : List Addr} {Hs0 : Hp} {K : PySem.W.Frag} {k : Nat} (hx : ∀ j b, P.sub j k = some b → PySem.W.exmOne K (.ref (A.xc k)) (.ref (A.xc j)) = some b) : ∀ (hs : Hs) (O M : List Addr) (H : Hp) (σ : St) (ρ : Loc) (S : Sto), AtS (A.w F) K Hs0 O σ H ρ S M → PostS (A.w F) K W Hs0 Dn O M H (evHs P rc hs k ρ S) → wClauses K W Dn (hsL P rc A K hs) (.ref (A.xc k)) none σ H
  | .nil, O, M, H, σ, ρ, S, x, h => h σ H M O .refl x
  | .cons j b hs, O, M, H, σ, ρ, S, x, h => by
    simp only [evHs] at h
    cases e0 : P.sub j k with
    | none => rw [e0] at h; exact h.elim
    | some bb =>
      rw [e0] at h
      have ex : PySem.W.exmAny K (.ref (A.xc k)) [.ref (A.xc j)] = some (bb || false) := by
        unfold PySem.W.exmAny
        rw [hx j bb e0]
        rfl
      refine ⟨bb || false, ex, fun e a _ => ?_, fun e => ?_⟩ <;> rw [Bool.or_false] at e <;> subst e
      · exact suite_ok x h
      · exact many_ok hx hs O M H σ ρ S x h
  | .two i j b hs, O, M, H, σ, ρ, S, x, h => by
    simp only [evHs] at h
    cases e0 : P.sub i k with
    | none => rw [e0] at h; exact h.elim
    | some b1 =>
      cases e1 : P.sub j k with
      | none => rw [e0, e1] at h; exact h.elim
      | some b2 =>
        rw [e0, e1] at h
        have ex : PySem.W.exmAny K (.ref (A.xc k)) [.ref (A.xc i), .ref (A.xc j)] = some (b1 || (b2 || false)) := by
          unfold PySem.W.exmAny
          rw [hx i b1 e0]
          unfold PySem.W.exmAny
          rw [hx j b2 e1]
          rfl
        dsimp only at h
        refine ⟨_, ex, fun e a _ => ?_, fun e => ?_⟩ <;> rw [Bool.or_false] at e
        · rw [if_pos e] at h
          exact suite_ok x h
        · rw [if_neg (by rw [e]; decide)] at h
          exact many_ok hx hs O M H σ ρ S x h
theorem s_try {h₀ : ExceptHandler} {hds : List ExceptHandler} {b : Ss} {hs : Hs} (hst : X.stack = X.env :: X.outer) (hf : X.env.frame = some X.env.locals) (tk : Takes X W) (hx : ∀ k j b, P.sub j k = some b → PySem.W.exmOne X.K (.ref (A.xc k)) (.ref (A.xc j)) = some b)
    (hb : ∀ (W' : WX) (pn : List (Addr × Obj)) (xe : Value → Shared → Prop), Takes (X.tr pn xe) W' → PassesOwn (model X.prog X.w) X.A X.env xe → PSs (X.tr pn xe) body (tSs P rc A X.K W' b))
    (hh : HdT X (h₀ :: hds) (hsL P rc A X.K hs)) : PS X (.Try body (h₀ :: hds) [] [] pos) (tS P rc A X.K W (.tr b hs)) := by
  refine (ps_tryT hst hf tk hb hh).imp fun Dn σ H ⟨F, Hs0, O, ρ, S, M, x, h⟩ => ⟨F, Hs0, O, ρ, S, M, x, ?_⟩
  simp only [evS] at h
  generalize evSs P rc b ρ S = o at h
  cases o with
  | ok f S' =>
    cases f with
    | raise k r' => exact fun σ' H' M' O' s' x' => many_ok (hx k) hs O' M' H' σ' r' S' x' (PostS.rebase h s')
    | _ => exact h
  | _ => exact h
/-- a try whose only clause raises anew: sound where the body does not raise -/
theorem s_trx {body suite : List Stmt} {b₀ : Stmt} {x : Str} {np pos' : Pos} {b : Ss} {j l : Nat} (hst : X.stack = X.env :: X.outer) (hf : X.env.frame = some X.env.locals) (tk : Takes X W) (hc : Names X x (.ref (A.xc j)))
    (hb : ∀ (W' : WX) (pn : List (Addr × Obj)) (xe : Value → Shared → Prop), Takes (X.tr pn xe) W' → PassesOwn (model X.prog X.w) X.A X.env xe → PSs (X.tr pn xe) body (tSs P rc A X.K W' b)) :
    PS X (.Try body [.ExceptHandler (some (.Name x np)) none (b₀ :: suite) pos'] [] [] pos) (tS P rc A X.K W (.trx b j l)) := by
  refine (ps_try_many hst hf tk hb (.cons hc (fun a oe cls d pn _ _ => (⟨fun _ _ _ _ _ _ h => h.elim⟩ : PSs (X.suite a ((a, oe) :: pn)) (b₀ :: suite) ((fun (_ : Addr) (_ : Value) (_ : Option Addr) => (fun _ _ _ => False : TS)) a cls d))) .nil)).imp fun Dn σ H ⟨F, Hs0, O, ρ, S, M, x, h⟩ => ⟨F, Hs0, O, ρ, S, M, x, ?_⟩
  simp only [evS] at h
  generalize evSs P rc b ρ S = o at h
  cases o with
  | ok f S' =>
    cases f with
    | raise k r' => exact h.elim
    | _ => exact h
  | _ => exact h
end
end Pl
/-! More expressions. -/
namespace Pl
open PySem PySem.Spec
open PyProof.Rows hiding St
open L2
/-- a def that may be called -/
structure Cal (X : Cx) (A : Adr) (rc : Nat → List D → Sto → O R) (f : Nat) : Prop where
  ok : ∃ (k : Nat) (fd : FuncData) (ps : List Str), FnOk X.prog X.w X.K X.mg X.base (L2.CX X.prog X.w) k (A.fn f) fd ps (SPf A X.K rc f) ∧ Room k X.A ∧ PySem.W.keepIn X.K (.ref (A.fn f)) = true ∧ Binds X.K fd ps []
section
variable {P : Pg} {rc : Nat → List D → Sto → O R} {A : Adr} {W : WX} {X : Cx} {pos p2 : Pos} {a b c e o : Expr} {ca cb cc co ck : E} {es : List Expr} {ces : Es}
theorem se_cv {i : Nat} {x : Str} {p : Pos} (fv : ∀ f, (P.fn f).isSome = true → Cal X A rc f) (hN : X.N[i]? = some x) (hv : Vis X.env.scope x) (hdb : (x == ("__debug__" : Str)) = false) (hcd : (x == ("__classdict__" : Str)) = false) (tk : Takes X W)
    (ha : PA X (e :: es) (tEs P rc A X.K W ces)) (he : starEach (e :: es) X.env = (false, eval e X.env) :: starEach es X.env) (hpl : (backTo pos (starEach es X.env)).any (·.1) = false) :
    PE X (.Call (.Name x p) (e :: es) [] pos) (tE P rc A X.K W (.cv i ces)) := by
  refine ⟨fun pins s σ H Q I h => ?_⟩
  obtain ⟨Φ, ρ, S, M, x, h⟩ := h
  simp only [evE] at h
  have go : ∃ f, ρ[i]? = some (.v (.fn f)) ∧ (P.fn f).isSome = true ∧ Post (A.w Φ) X.K W (RRl (A.w Φ) X.K) σ ρ M H ((evEs P rc ces ρ S).bind fun ds S => rc f ds S) Q := by
    split at h
    · next f e =>
      obtain ⟨h1, h2⟩ := Post.ifP h
      exact ⟨f, e, h1, h2⟩
    · exact h.elim
  obtain ⟨f, ef, hs, h⟩ := go
  obtain ⟨v, es', rd⟩ := x.sr.at_ i _ ef
  cases rd
  have q : tEs P rc A X.K W ces σ H fun vs H1 => SPf A X.K rc f vs H1 Q (WE W σ) := ⟨Φ, ρ, S, M, x, Post.bind h fun ds S1 vs H1 M1 s1 x1 rx h1 => sp_ok x1 rx (Post.rbR h1 s1)⟩
  refine wpAny_Call_Name_kw (thn ((pe_var (pos := p) hN hv hdb hcd).run pins s σ H (fun v H1 => v = .ref (A.fn f) ∧ H1 = H) I ⟨.ref (A.fn f), es', rfl, rfl⟩) fun u s1 ⟨v, H1, I1, r1, q1⟩ => ?_)
  obtain ⟨rfl, rfl⟩ := q1
  cases r1
  obtain ⟨k, fd, ps, F, hr, hk, hb⟩ := fv f hs
  refine PySem.W.callWith_K (h₀ := X.base) I.ok.mod.kin hk (thn (ha.run pos pins s1 σ _ _ I1 q) fun us s2 ⟨vs, H2, I2, r, q⟩ => ⟨I2.kIn, ?_⟩) he hpl
  exact run_fnS F hr hb (passAt tk σ) I2 r q
theorem few1 {apos cpos : Pos} {m : Str} (hs : starEach [e] X.env = (false, eval e X.env) :: starEach [] X.env) (hbase : attributeBase o m X.env (eval o X.env) = eval o X.env) (hline : (apos.endLine == cpos.line) = true) : M1 X o m apos e cpos :=
  ⟨hbase, by rw [hs]; rfl, hline, by rw [hs]; rfl⟩
theorem few2 {apos cpos : Pos} {m : Str} {f : Expr} (hs : starEach [e, f] X.env = (false, eval e X.env) :: starEach [f] X.env) (hs2 : starEach [f] X.env = (false, eval f X.env) :: starEach [] X.env) (hbase : attributeBase o m X.env (eval o X.env) = eval o X.env) (hline : (apos.endLine == cpos.line) = true) : M2 X o m apos e f cpos :=
  ⟨hbase, by rw [hs, hs2]; rfl, hline, by rw [hs, hs2]; rfl⟩
theorem bmR_get {S : Sto} {x : R} {y : D} {z : R} {S' : Sto} (e : bmR .get S x [y] = some (z, S')) : ∃ o, dgR S x (.v y) = some o ∧ z = .v (o.getD .non) ∧ S' = S := by
  have e : (dgR S x (.v y)).map (fun o => (R.v (o.getD .non), S)) = some (z, S') := by
    unfold bmR at e
    split at e <;> first | exact e | (simp_all; done)
  obtain ⟨o, e1, e2⟩ := mapO e
  cases e2
  exact ⟨o, e1, rfl, rfl⟩
theorem bmR_get2 {S : Sto} {x : R} {y w : D} {z : R} {S' : Sto} (e : bmR .get2 S x [y, w] = some (z, S')) : ∃ o, dgR S x (.v y) = some o ∧ z = .v (o.getD w) ∧ S' = S := by
  have e : (dgR S x (.v y)).map (fun o => (R.v (o.getD w), S)) = some (z, S') := by
    unfold bmR at e
    split at e <;> first | exact e | (simp_all; done)
  obtain ⟨o, e1, e2⟩ := mapO e
  cases e2
  exact ⟨o, e1, rfl, rfl⟩
theorem Post.ev1 {K : PySem.W.Frag} {σ : St} {ρ : Loc} {M : List Addr} {H : Hp} {S : Sto} {α β : Type} {Rl : Rel α β} {f : List D → Sto → O α} {Q : β → Hp → Prop} (h : Post A K W Rl σ ρ M H ((evEs P rc (.cons ca .nil) ρ S).bind f) Q) : Post A K W Rl σ ρ M H ((valO (evE P rc ca ρ S)).bind fun d S => f [d] S) Q := by
  simp only [evEs] at h
  generalize valO (evE P rc ca ρ S) = o at h
  cases o <;> exact h
theorem se_get {x : Str} {apos : Pos} (hu : X.A.units + 65 < cLine) (hx : x = Bm.get.nm) (ho : PE X o (tE P rc A X.K W co)) (hk : PE X e (tE P rc A X.K W ck))
    (hbase : attributeBase o x X.env (eval o X.env) = eval o X.env) (hline : (apos.endLine == pos.line) = true) (hs : starEach [e] X.env = (false, eval e X.env) :: starEach [] X.env) :
    PE X (.Call (.Attribute o x apos) [e] [] pos) (tE P rc A X.K W (.bm .get co (.cons ck .nil))) := by
  subst hx
  refine (pe_dget1 (by omega) ho hk (few1 hs hbase hline)).imp fun σ H Q ⟨Φ, ρ, S, M, x, h⟩ => ⟨Φ, ρ, S, M, x, ?_⟩
  refine Post.bind h fun r1 S1 v H1 M1 s1 x1 rx h1 => ?_
  obtain ⟨ok, h1⟩ := Post.ifP (Post.rbR h1 s1)
  obtain ⟨p, rfl, hd⟩ := dOk x1.hr rx ok
  refine ⟨p, rfl, hd, Φ, ρ, S1, M1, x1, ?_⟩
  refine Post.valV (Post.bind (Rl := RDd (A.w Φ) X.K) (Post.ev1 h1) fun d S2 u H2 M2 s2 x2 rd h2 => ?_)
  obtain ⟨y, S3, e, q⟩ := Post.pair (Post.rbR h2 s2)
  obtain ⟨o', e1, rfl, rfl⟩ := bmR_get e
  have ok2 : ((dkOf S3 r1).isSome || (dtOf S3 r1).isSome) = true := by
    have : (dgR S3 r1 (.v d)).isSome = true := by rw [e1]; rfl
    unfold dgR at this
    split at this
    · cases ok
    · cases q1 : dkOf S3 r1 with
      | some _ => rfl
      | none =>
        rw [q1] at this
        cases q2 : dtOf S3 r1 with
        | some _ => rfl
        | none => rw [q2] at this; cases this
  obtain ⟨w, g, hw⟩ := dget_of (Hy := H2) x2.hr ok2 e1 (rx.mono s2) rd
  refine ⟨w, g, ?_⟩
  rcases hw with ⟨rfl, rfl⟩ | ⟨d', z, rfl, rfl, rz⟩
  · exact q _ H2 M2 .refl x2 .non
  · exact q _ H2 M2 .refl x2 rz
theorem box_te {σ : St} {H : Hp} {Q : VK} (z : tE P rc A X.K W (.box ca) σ H Q) : tE P rc A X.K W ca σ H Q := by
  obtain ⟨Φ, ρ, S, M, x, h⟩ := z
  refine ⟨Φ, ρ, S, M, x, ?_⟩
  refine Post.bind h fun r S1 v H1 M1 s1 x1 rr h1 => ?_
  cases e : boxR S1 r with
  | none => rw [e] at h1; exact h1.elim
  | some p =>
    obtain ⟨y, S2⟩ := p
    rw [e] at h1
    have go : ∀ (p : Addr) (ob : Ob), v = .ref p → y = .v (.ref S1.length) → S2 = S1 ++ [ob] → H p = none → p ∉ M1 → OR (A.w Φ) X.K (M1 ++ [p]) H1 p ob → Q v H1 := fun p ob e1 e2 e3 n0 n q => by
      subst e1 e2 e3
      exact h1 _ H1 (M1 ++ [p]) (s1.join n0) (x.mono (s1.join n0) (x1.hr.join n q)) (RD.ref (x1.hr.last p))
    cases r with
    | v d => cases e
    | l ds =>
      obtain ⟨p, vs, e1, n0, n, f, hp, q⟩ := rr
      have e : (if noLs ds = true then some (R.v (.ref S1.length), S1 ++ [Ob.lst ds]) else none) = some (y, S2) := e
      split at e
      · next hn =>
        cases e
        exact go p (.lst ds) e1 rfl rfl n0 n ⟨hn, vs, hp, RDs.more hn (RDs.tl (A := A.w Φ) q)⟩
      · cases e
    | d ds =>
      obtain ⟨p, vs, e1, n0, n, f, hp, q⟩ := rr
      have e : (if noLs (ds.map (·.2)) = true then some (R.v (.ref S1.length), S1 ++ [Ob.dk ds]) else none) = some (y, S2) := e
      split at e
      · next hn =>
        cases e
        exact go p (.dk ds) e1 rfl rfl n0 n ⟨hn, vs, hp, RKs.more hn q⟩
      · cases e
    | t ds =>
      obtain ⟨p, vs, e1, n0, n, hp, q⟩ := rr
      have e : (if noLs (ds.map (·.2)) = true then some (R.v (.ref S1.length), S1 ++ [Ob.dt ds]) else none) = some (y, S2) := e
      split at e
      · next hn =>
        cases e
        exact go p (.dt ds) e1 rfl rfl n0 n ⟨hn, vs, hp, RKs.more hn q⟩
      · cases e
theorem se_box (ha : PE X a (tE P rc A X.K W ca)) : PE X a (tE P rc A X.K W (.box ca)) := ha.imp fun _ _ _ z => box_te z
theorem se_dnT : PE X (.Dict [] [] pos) (tE P rc A X.K W .dnT) := pe_dnewT.imp fun σ H Q ⟨Φ, ρ, S, M, x, h⟩ => fun p n => h _ _ M (.new n) (x.new n) ⟨p, [], rfl, n, x.nin n, upd_same, .nil⟩
theorem se_dn : PE X (.Dict [] [] pos) (tE P rc A X.K W (.dsp [] .nil)) := pe_dnewK.imp fun σ H Q ⟨Φ, ρ, S, M, x, h⟩ => fun p n => h _ _ M (.new n) (x.new n) ⟨p, [], rfl, n, x.nin n, x.nF n, upd_same, .nil⟩
end
section
variable {P : Pg} {rc : Nat → List D → Sto → O R} {A : Adr} {W : WX} {X : Cx} {pos : Pos} {c tg iter : Expr} {cc ce : E} {g : G} {cit : It} {bw : Bool}
theorem s_setLcB {i : Nat} {y : Str} {py : Pos} {elt : Expr} {scope : Scope} {own : List (Str × Nat)} {spos : Pos} (hc : X.calm = true) (hN : X.N.Nodup) (hy : X.N[i]? = some y) (hyl : X.env.scope.names.lookup y = some .local)
    (hsw : swapsWith (.ListComp elt [⟨tg, iter, [], 0⟩] scope pos) (some (.Name y py)) spos.line X.env = pure true) (hi : PI X tg iter (tIt P rc (A.b bw) X.K W cit)) (ok : BlkOk X.N X.env.scope scope own) (hw : ∀ i ∈ g.ix, i ∈ own.map (·.2))
    (hg : ∀ (s : Shared) (H : Hp) (C : Addr) (cl : List (Str × Addr)) (fp : List Addr), PG (X.blk s H scope (compEnvC scope cl C X.env) fp) tg (tG X.K g))
    (he : ∀ (s : Shared) (H : Hp) (C : Addr) (cl : List (Str × Addr)) (fp : List Addr), PE (X.blk s H scope (compEnvC scope cl C X.env) fp) elt (tE P rc (A.b bw) X.K W0 ce)) (hs : ∀ x, foldedSetIterable iter X.env x = pure x) :
    PS X (.Assign [.Name y py] (.ListComp elt [⟨tg, iter, [], 0⟩] scope pos) spos) (tS P rc A X.K W (.asg bw (.name i) (.box (.lc (own.map (·.2)) g cit ce)))) := by
  refine (ps_setLc hc hN hy hyl hsw hi ok hg (fun _ _ _ _ _ => pts_nil) he hs).imp fun Dn σ H ⟨F, Hs, O, ρ, S, M, x, h⟩ => ?_
  obtain ⟨Φ, ρ, S, M, x, h⟩ := box_te (asg_ok (g := .name i) x h)
  exact lc_gen blk_lc hw x h
theorem s_setLcIB {i : Nat} {y : Str} {py : Pos} {elt : Expr} {scope : Scope} {own : List (Str × Nat)} {spos : Pos} (hc : X.calm = true) (hN : X.N.Nodup) (hy : X.N[i]? = some y) (hyl : X.env.scope.names.lookup y = some .local)
    (hsw : swapsWith (.ListComp elt [⟨tg, iter, [c], 0⟩] scope pos) (some (.Name y py)) spos.line X.env = pure true) (hi : PI X tg iter (tIt P rc (A.b bw) X.K W cit)) (ok : BlkOk X.N X.env.scope scope own) (hw : ∀ i ∈ g.ix, i ∈ own.map (·.2))
    (hg : ∀ (s : Shared) (H : Hp) (C : Addr) (cl : List (Str × Addr)) (fp : List Addr), PG (X.blk s H scope (compEnvC scope cl C X.env) fp) tg (tG X.K g))
    (ht : ∀ (s : Shared) (H : Hp) (C : Addr) (cl : List (Str × Addr)) (fp : List Addr), PT (X.blk s H scope (compEnvC scope cl C X.env) fp) c (tT P rc (A.b bw) X.K W0 cc))
    (he : ∀ (s : Shared) (H : Hp) (C : Addr) (cl : List (Str × Addr)) (fp : List Addr), PE (X.blk s H scope (compEnvC scope cl C X.env) fp) elt (tE P rc (A.b bw) X.K W0 ce)) (hs : ∀ x, foldedSetIterable iter X.env x = pure x) :
    PS X (.Assign [.Name y py] (.ListComp elt [⟨tg, iter, [c], 0⟩] scope pos) spos) (tS P rc A X.K W (.asg bw (.name i) (.box (.lcI (own.map (·.2)) g cit cc ce)))) := by
  refine (ps_setLc hc hN hy hyl hsw hi ok hg (fun s H C cl fp => pts_one (ht s H C cl fp)) he hs).imp fun Dn σ H ⟨F, Hs, O, ρ, S, M, x, h⟩ => ?_
  obtain ⟨Φ, ρ, S, M, x, h⟩ := box_te (asg_ok (g := .name i) x h)
  exact lc_gen blk_lcI hw x h
end
end Pl
/-! Objects of classes, displays of dicts. -/
namespace Pl
open PySem PySem.Spec
open PyProof.Rows hiding St
open L2
section
variable {A : Adr} {K : PySem.W.Frag} {M M' M1 M2 : List Addr} {H H' H0 H1 H2 : Hp} {σ : St} {ρ : Loc} {S : Sto}
mutual
theorem RD.updG {P : Addr} {u0 u1 : HO} (n : H P = some u0) (nt : ∀ vs, u0 ≠ .tup vs) (f : P ∈ A.F) : ∀ {d : D} {v : V}, RD A K M H d v → RD A K M (upd H P u1) d v
  | _, _, .non => .non
  | _, _, .bl b => .bl b
  | _, _, .int i => .int i
  | _, _, .str x => .str x
  | _, _, .tup h r => .tup (by
      rw [upd_ne fun e => by
        subst e
        rw [n] at h; exact nt _ (Option.some.inj h)]
      exact h) (RDs.updG n nt f r)
  | _, _, .tpk h r => .tpk h (RDs.updG n nt f r)
  | _, _, .lsk h r => .lsk h (RDs.updG n nt f r)
  | _, _, .lst h r => .lst ⟨by
      have ne : ∀ {a}, a ∉ A.F → a ≠ P := fun h e => h (by rw [e]; exact f)
      rcases h.1 with q | ⟨o, q⟩
      · exact .inl (by rw [upd_ne (ne h.2.2)]; exact q)
      · exact .inr ⟨o, by rw [upd_ne (ne h.2.2)]; exact q⟩, h.2⟩ (RDs.updG n nt f r)
  | _, _, .dct h e q nf r => .dct (by
      rcases h with q | ⟨o, q⟩
      · exact .inl (by
          rw [upd_ne fun e => nf (by rw [e]; exact f)]
          exact q)
      · exact .inr ⟨o, by
          rw [upd_ne fun e => nf (by rw [e]; exact f)]
          exact q⟩) e q nf (RDs.updG n nt f r)
  | _, _, .ref h => .ref h
  | _, _, .fn f => .fn f
  | _, _, .dck h => .dck h
theorem RDs.updG {P : Addr} {u0 u1 : HO} (n : H P = some u0) (nt : ∀ vs, u0 ≠ .tup vs) (f : P ∈ A.F) : ∀ {ds : List D} {vs : List V}, RDs A K M H ds vs → RDs A K M (upd H P u1) ds vs
  | _, _, .nil => .nil
  | _, _, .cons h r => .cons (RD.updG n nt f h) (RDs.updG n nt f r)
end
theorem RKs.updG {κ : Type} {P : Addr} {u0 u1 : HO} (n : H P = some u0) (nt : ∀ vs, u0 ≠ .tup vs) (f : P ∈ A.F) : ∀ {ds : List (κ × D)} {vs : List (κ × V)}, RKs A K M H ds vs → RKs A K M (upd H P u1) ds vs
  | _, _, .nil => .nil
  | _, _, .cons h r => .cons (h.updG n nt f) (RKs.updG n nt f r)
theorem OR.updG {P a : Addr} {u0 u1 : HO} {o : Ob} (n : H P = some u0) (nt : ∀ vs, u0 ≠ .tup vs) (f : P ∈ A.F) (ne : a ≠ P) (h : OR A K M H a o) : OR A K M (upd H P u1) a o := by
  cases o with
  | lst ds =>
    obtain ⟨nl, vs, h1, r⟩ := h
    exact ⟨nl, vs, (upd_ne ne).trans h1, r.updG n nt f⟩
  | dk ds =>
    obtain ⟨nl, vs, h1, r⟩ := h
    exact ⟨nl, vs, (upd_ne ne).trans h1, r.updG n nt f⟩
  | dt ds =>
    obtain ⟨nl, vs, h1, r⟩ := h
    exact ⟨nl, vs, (upd_ne ne).trans h1, r.updG n nt f⟩
  | ins c ds =>
    obtain ⟨nl, dx, vs, h1, r⟩ := h
    exact ⟨nl, dx, vs, (upd_ne ne).trans h1, r.updG n nt f⟩
  | fz ds =>
    obtain ⟨nl, dx, vs, h1, r⟩ := h
    exact ⟨nl, dx, vs, (upd_ne ne).trans h1, r.updG n nt f⟩
theorem HR.updG {P : Addr} {u0 u1 : HO} (n : H P = some u0) (nt : ∀ vs, u0 ≠ .tup vs) (f : P ∈ A.F) (np : P ∉ M) (x : HR A K M H S) : HR A K M (upd H P u1) S :=
  ⟨x.len, x.nd, fun i o e => by
    obtain ⟨a, e1, q⟩ := x.ob i o e
    exact ⟨a, e1, q.updG n nt f fun z => np (by rw [← z]; exact List.mem_of_getElem? e1)⟩⟩
theorem SR.updG {P : Addr} {u0 u1 : HO} (n : H P = some u0) (nt : ∀ vs, u0 ≠ .tup vs) (f : P ∈ A.F) (x : SR A K M H σ ρ) : SR A K M (upd H P u1) σ ρ :=
  ⟨x.len, fun i d e => by
    obtain ⟨v, e1, r⟩ := x.at_ i d e
    exact ⟨v, e1, r.updG n nt f⟩, fun b i ds e => by
    obtain ⟨a, vs, e1, ha, m, nf, r⟩ := x.ow b i ds e
    exact ⟨a, vs, e1, by rw [upd_ne fun z => nf (by rw [z]; exact f)]; exact ha, m, nf, r.updG n nt f⟩⟩
theorem At.updG {P : Addr} {u0 u1 : HO} (n : H P = some u0) (nt : ∀ vs, u0 ≠ .tup vs) (f : P ∈ A.F) (np : P ∉ M) (x : At A K σ H ρ S M) : At A K σ (upd H P u1) ρ S M :=
  ⟨x.hr.updG n nt f np, x.sr.updG n nt f, fun a m => by
    by_cases e : a = P
    · exact ⟨_, by rw [e]; exact upd_same⟩
    · rw [upd_ne e]
      exact x.ff a m⟩
theorem Stp.updG {P : Addr} {u1 : HO} (n0 : H P = none) (s : Stp K M H M1 H1) : Stp K M H M1 (upd H1 P u1) :=
  ⟨s.ext, fun a o h m => by
    rw [upd_ne (ne_of_none h n0)]
    exact s.keep a o h m, fun a h => by
    by_cases e : a = P
    · rw [e]
      exact n0
    · rw [upd_ne e] at h
      exact s.grow a h, fun a vs h => by
    rw [upd_ne (ne_of_none h n0)]
    exact s.tup a vs h, fun a od u h => by
    rw [upd_ne (ne_of_none h n0)]
    exact s.frz a od u h⟩
theorem HR.ins {i c : Nat} {fs : List (Str × D)} {a : Addr} (x : HR A K M H S) (e : S[i]? = some (.ins c fs)) (ha : M[i]? = some a) : noLs (fs.map (·.2)) = true ∧ ∃ dx ws, H a = some (.ins (A.cl c) dx ws) ∧ RKs A K M H fs ws := x.at_ e ha
/-- a relation under more hidden lists -/
theorem At.less {F G : List Addr} (x : At (A.w G) K σ H ρ S M) (h : ∀ a ∈ F, a ∈ G) : At (A.w F) K σ H ρ S M := ⟨HR.free (A := A.w G) x.hr, SR.sub (A := A.w G) h x.sr, fun a m => x.ff a (h a m)⟩
end
section
variable {P : Pg} {rc : Nat → List D → Sto → O R} {A : Adr} {W : WX} {X : Cx} {pos p2 : Pos} {a b c e o : Expr} {ca cb cc co ck ce : E} {es : List Expr} {ces : Es}
/-! ### attributes -/
theorem se_fld {f : Str} (hf : ∀ c, (P.ini c).isSome = true → Cls X.K (A.cl c) ∧ NoAttr X.K (A.cl c) f) (ho : PE X o (tE P rc A X.K W co)) (hb : attributeBase o f X.env (eval o X.env) = eval o X.env) : PE X (.Attribute o f pos) (tE P rc A X.K W (.fld co f)) := by
  refine (pe_fld ho hb).imp fun σ H Q ⟨Φ, ρ, S, M, x, h⟩ => ⟨Φ, ρ, S, M, x, ?_⟩
  refine Post.bind h fun r1 S1 v H1 M1 s1 x1 rx h1 => ?_
  have h1 := Post.rbR h1 s1
  split at h1
  · next i =>
    split at h1
    · next c fs e1 =>
      obtain ⟨hi, h1⟩ := Post.ifP h1
      obtain ⟨r, e2, q⟩ := Post.of h1
      obtain ⟨d, e3, rfl⟩ := mapO e2
      cases rx with
      | ref ha =>
        obtain ⟨_, dx, ws, ho', rk⟩ := x1.hr.ins e1 ha
        obtain ⟨k1, k2⟩ := hf c hi
        rcases rk.look (f := f) with ⟨g1, g2⟩ | ⟨d', u, g1, g2, g3⟩
        · rw [g1] at e3; cases e3
        · rw [g1] at e3
          cases e3
          exact ⟨_, _, dx, ws, u, rfl, ho', k1, k2, g2, q _ H1 M1 .refl x1 g3⟩
    · exact h1.elim
  · exact h1.elim
theorem noL_putA {f : Str} {d : D} : ∀ {fs : List (Str × D)}, noLs (fs.map (·.2)) = true → noL d = true → noLs ((putA f d fs).map (·.2)) = true
  | [], _, h => by
    show (noL d && true) = true
    rw [h]
    rfl
  | (g, u) :: r, n, h => by
    have n := Bool.and_eq_true_iff.mp (show (noL u && noLs (r.map (·.2))) = true from n)
    unfold putA
    split
    · show (noL d && noLs (r.map (·.2))) = true
      rw [h, n.2]
      rfl
    · show (noL u && noLs ((putA f d r).map (·.2))) = true
      rw [n.1, noL_putA n.2 h]
      rfl
theorem s_asgF {f : Str} {p3 : Pos} (hf : ∀ c, (P.ini c).isSome = true → Cls X.K (A.cl c) ∧ NoAttr X.K (A.cl c) f) (ho : PE X o (tE P rc (A.b true) X.K W co)) (he : PE X e (tE P rc (A.b true) X.K W ce))
    (hs : swapsWith e (some (.Attribute o f p3)) pos.line X.env = pure false) : PS X (.Assign [.Attribute o f p3] e pos) (tS P rc A X.K W (.asgF co f ce)) := by
  refine (ps_fld ho he hs).imp fun Dn σ H ⟨F, Hs, O, ρ, S, M, x, h⟩ => ⟨_, ρ, S, M, x.see true, ?_⟩
  refine Post.valV (PostS.flow (A := A.w F) (b := true) x h fun d S1 v H1 M1 s1 x1 rd h1 => ?_)
  refine ⟨_, ρ, S1, M1, x1.see true, ?_⟩
  refine PostS.flow (A := A.w F) (b := true) x1 h1 fun y S2 ov H2 M2 s2 x2 ry h2 => ?_
  split at h2
  · next i =>
    split at h2
    · next c fs e1 =>
      split at h2
      · next hc =>
        obtain ⟨c1, c2, c3⟩ := hc
        cases ry with
        | ref ha =>
          obtain ⟨nl, dx, ws, ho', rk⟩ := x2.hr.ins e1 ha
          obtain ⟨k1, k2⟩ := hf c c3
          have s3 : Stp X.K M2 H2 M2 (upd H2 _ (.ins (A.cl c) dx (L2.putF f v ws))) := stp_at x2.hr e1 ha
          have rd2 : RD (A.w F) X.K M2 H2 d v := (RD.noL (A := (A.w F |>.b true).w (md true O F)) (F := F) (b := A.bw) c2 rd).mono s2
          obtain ⟨s4, h4⟩ := set_hr (u := .ins (A.cl c) dx (L2.putF f v ws)) x2.hr e1 ha (o' := .ins c (putA f d fs)) ⟨noL_putA nl c2, dx, _, upd_same, (rk.putF rd2).mono s3⟩
          refine ⟨_, _, dx, ws, rfl, ho', k1, k2, by rw [← rk.len]; exact c1, ?_⟩
          exact h2 σ _ M2 O s4.toS (x2.mono s4 h4)
      · exact h2.elim
    · exact h2.elim
  · exact h2.elim
/-! ### methods -/
theorem form_ok {e : Expr} {es : List Expr} (h1 : ((backTo pos (starEach es X.env)).all (fun x => !x.1) && (backToKw pos (keywordEach [] X.env)).all (fun x => x.1.isSome) && decide (es.length + ([] : List Keyword).length + (if ([] : List Keyword).isEmpty then 0 else 1) < 30)) = true) :
    methodCallForm (es.length + ([] : List Keyword).length) (backTo pos (starEach es X.env)) (backToKw pos (keywordEach [] X.env)) = true := h1
theorem run_meth {m : Str} {apos : Pos} {σ : St} {H : Hp} {s : Shared} {pins : List (Addr × Obj)} {Q : Value → Shared → Prop}
    (hbase : attributeBase o m X.env (eval o X.env) = eval o X.env) (hline : (apos.endLine == pos.line) = true)
    (hfew : ((backTo pos (starEach es X.env)).all (fun x => !x.1) && (backToKw pos (keywordEach [] X.env)).all (fun x => x.1.isSome) && decide (es.length + ([] : List Keyword).length + (if ([] : List Keyword).isEmpty then 0 else 1) < 30)) = true)
    (h : wpAny (model X.prog X.w) X.A (eval o X.env) (fun u s1 => ∃ H1 a C g dx fs, Inv X pins σ H1 s1 ∧ u = .ref a ∧ H1 a = some (.ins C dx fs) ∧ Cls X.K C ∧ Meth X.K C m g ∧ fs.lookup m = none ∧
      wpAny (model X.prog X.w) X.A (callWith pos (.ref g) [.ref a] (backTo pos (starEach es X.env)) (backToKw pos (keywordEach [] X.env))) Q X.xe s1) X.xe s) :
    wpAny (model X.prog X.w) X.A (eval (.Call (.Attribute o m apos) es [] pos) X.env) Q X.xe s := by
  rw [arm_eval_Call, hbase]
  refine wpAny_bind (wpAny_mono h (fun u s1 ⟨H1, a, C, g, dx, fs, I1, eu, ea, c, hm, l, q⟩ => ?_) fun _ _ e => e)
  refine wpAny_bind (wpAny_standAt ?_)
  subst eu
  have hform : methodCallForm (es.length + ([] : List Keyword).length) (backTo pos (starEach es X.env)) (backToKw pos (keywordEach [] X.env)) = true := hfew
  have hpos : methodCallPos true o X.env apos pos = pure pos := by unfold methodCallPos; simp [hline]
  unfold methodCall
  rw [hform]
  refine wpAny_bind (wpAny_holding (getmeth_ok I1 ea c hm l ?_))
  exact wpAny_bind (wpAny_of_eq hpos q)
theorem mth_parts {m : Str} {σ : St} {H : Hp} {ρ : Loc} {S : Sto} {M Φ : List Addr} {Q : VK} (fm : ∀ c f, P.mt c m = some f → Cls X.K (A.cl c) ∧ Meth X.K (A.cl c) m (A.fn f) ∧ Cal X A rc f) (x : At (A.w Φ) X.K σ H ρ S M)
    (h : Post (A.w Φ) X.K W (RRl (A.w Φ) X.K) σ ρ M H (evE P rc (.mth m co ces) ρ S) Q) :
    tE P rc A X.K W co σ H fun v H1 => ∃ a c f dx fs, v = .ref a ∧ H1 a = some (.ins (A.cl c) dx fs) ∧ Cls X.K (A.cl c) ∧ Meth X.K (A.cl c) m (A.fn f) ∧ fs.lookup m = none ∧ Cal X A rc f ∧
      tEs P rc A X.K W ces σ H1 fun vs H2 => SPf A X.K rc f (.ref a :: vs) H2 Q (WE W σ) := by
  refine ⟨Φ, ρ, S, M, x, ?_⟩
  refine Post.bind h fun r1 S1 v H1 M1 s1 x1 rx h1 => ?_
  have h1 := Post.rbR h1 s1
  split at h1
  · next i =>
    split at h1
    · next c fs e1 =>
      split at h1
      · next f g1 g2 =>
        cases rx with
        | ref ha =>
          obtain ⟨_, dx, ws, ho', rk⟩ := x1.hr.ins e1 ha
          obtain ⟨k1, k2, k3⟩ := fm c f g2
          have hl : ws.lookup m = none := by
            rcases rk.look (f := m) with ⟨g3, g4⟩ | ⟨d', u, g3, g4, g5⟩
            · exact g4
            · rw [g1] at g3; cases g3
          refine ⟨_, c, f, dx, ws, rfl, ho', k1, k2, hl, k3, Φ, ρ, S1, M1, x1, ?_⟩
          exact Post.bind h1 fun ds S2 vs H2 M2 s2 x2 rs h2 => sp_ok x2 (.cons (.ref (s2.at_ ha)) rs) (Post.rbR h2 s2)
      · exact h1.elim
    · exact h1.elim
  · exact h1.elim
theorem se_mth {m x : Str} {apos : Pos} (fm : ∀ c f, P.mt c m = some f → Cls X.K (A.cl c) ∧ Meth X.K (A.cl c) m (A.fn f) ∧ Cal X A rc f) (hx : x = m) (tk : Takes X W) (ho : PE X o (tE P rc A X.K W co)) (ha : PA X (e :: es) (tEs P rc A X.K W ces))
    (hbase : attributeBase o x X.env (eval o X.env) = eval o X.env) (hline : (apos.endLine == pos.line) = true)
    (hfew : ((backTo pos (starEach (e :: es) X.env)).all (fun x => !x.1) && (backToKw pos (keywordEach [] X.env)).all (fun x => x.1.isSome) && decide ((e :: es).length + ([] : List Keyword).length + (if ([] : List Keyword).isEmpty then 0 else 1) < 30)) = true)
    (he : starEach (e :: es) X.env = (false, eval e X.env) :: starEach es X.env) (hpl : (backTo pos (starEach es X.env)).any (·.1) = false) :
    PE X (.Call (.Attribute o x apos) (e :: es) [] pos) (tE P rc A X.K W (.mth m co ces)) := by
  subst hx
  refine ⟨fun pins s σ H Q I h => ?_⟩
  obtain ⟨Φ, ρ, S, M, x, h⟩ := h
  refine run_meth (σ := σ) (H := H) (pins := pins) hbase hline hfew (thn (ho.run pins s σ H _ I (mth_parts fm x h)) fun u s1 ⟨v, H1, I1, r1, a, c, f, dx, fs, ev, ea, k1, k2, l, k3, q⟩ => ?_)
  subst ev
  obtain rfl : u = Value.ref a := r1
  refine ⟨H1, a, _, _, dx, fs, I1, rfl, ea, k1, k2, l, ?_⟩
  obtain ⟨k, fd, ps, F, hr, hk, hb⟩ := k3.ok
  refine PySem.W.callWith_K (first := [.ref a]) (h₀ := X.base) I.ok.mod.kin hk (thn (ha.run pos pins s1 σ H1 _ I1 q) fun us s2 ⟨vs, H2, I2, r, q2⟩ => ⟨I2.kIn, ?_⟩) he hpl
  exact run_fnS (us := .ref a :: us) (vs := .ref a :: vs) F hr hb (passAt tk σ) I2 (.cons rfl r) q2
theorem se_mth0 {m x : Str} {apos : Pos} (fm : ∀ c f, P.mt c m = some f → Cls X.K (A.cl c) ∧ Meth X.K (A.cl c) m (A.fn f) ∧ Cal X A rc f) (hx : x = m) (tk : Takes X W) (ho : PE X o (tE P rc A X.K W co))
    (hbase : attributeBase o x X.env (eval o X.env) = eval o X.env) (hline : (apos.endLine == pos.line) = true) :
    PE X (.Call (.Attribute o x apos) [] [] pos) (tE P rc A X.K W (.mth m co .nil)) := by
  subst hx
  refine ⟨fun pins s σ H Q I h => ?_⟩
  obtain ⟨Φ, ρ, S, M, x, h⟩ := h
  refine run_meth (σ := σ) (H := H) (pins := pins) hbase hline rfl (thn (ho.run pins s σ H _ I (mth_parts fm x h)) fun u s1 ⟨v, H1, I1, r1, a, c, f, dx, fs, ev, ea, k1, k2, l, k3, q⟩ => ?_)
  subst ev
  obtain rfl : u = Value.ref a := r1
  refine ⟨H1, a, _, _, dx, fs, I1, rfl, ea, k1, k2, l, ?_⟩
  obtain ⟨k, fd, ps, F, hr, hk, hb⟩ := k3.ok
  obtain ⟨Φ2, ρ2, S2, M2, x2, h2⟩ := q
  simp only [evEs] at h2
  exact PySem.W.callWith_K0 (first := [.ref a]) I1.kIn hk (run_fnS (us := [.ref a]) (vs := [.ref a]) F hr hb (passAt tk σ) I1 (.cons rfl .nil) (h2 [] H1 M2 .refl x2 .nil))
/-! ### new objects -/
theorem run_makeS {k : Nat} {f C : Addr} {fd : FuncData} {ps : List Str} {sp : Sp} {E : XK} {pins : List (Addr × Obj)} {σ : St} {H : Hp} {s : Shared} {Q : VK} {us : List Value} {vs : List V} (N : Mk X.K C f) (F : FnOk X.prog X.w X.K X.mg X.base (L2.CX X.prog X.w) k f fd ps sp) (hr : Room (k + 1) X.A) (hb : Binds X.K fd ps [])
    (hx : PassesAt (L2.CX X.prog X.w) X σ E) (I : Inv X pins σ H s) (r : Vals vs us)
    (h : ∀ x dx, H x = none → H dx = none → dx ≠ x → sp (.ref x :: vs) (upd (upd H dx (.own x)) x (.ins C dx [])) (fun v H2 => v = .non ∧ Q (.ref x) H2) E) :
    wpAny (model X.prog X.w) X.A (call (.ref C) us) (EP X pins σ Q) X.xe s := by
  have hq := h (s.heap.objs.size + 1) s.heap.objs.size (I.hok.fresh (Nat.le_succ _)) (I.hok.fresh (Nat.le_refl _)) (Nat.ne_of_lt (Nat.lt_succ_self _))
  have I2 := Inv.made (C := C) I
  have r2 : Vals (V.ref (s.heap.objs.size + 1) :: vs) (Value.ref (s.heap.objs.size + 1) :: us) := .cons rfl r
  have hl : (Value.ref (s.heap.objs.size + 1) :: us).length = ps.length := by
    have e := r2.length
    rw [F.len _ _ _ _ hq] at e
    exact e.symm
  have b := hb _ (Value.ref (s.heap.objs.size + 1) :: us) I2.kIn (by rw [List.append_nil]; exact hl)
  rw [List.append_nil] at b
  refine wpAny_call (make_map (f := f) I.kIn N.makes N.init (beq_iff_eq.mp N.fn) (codeAny_mono (F.run _ X.stack _ _ ⟨Value.ref (s.heap.objs.size + 1) :: us, []⟩ (Value.ref (s.heap.objs.size + 1) :: us) _ _ E (hr.make C us [])
    (I2.env0.make C us []) b r2 hq) fun r s' hq' => ?_))
  cases r with
  | error e => exact hx pins _ _ e s' I2 hq'
  | ok fl =>
    cases fl with
    | ret u =>
      obtain ⟨v, H', I3, rv, ev, q3⟩ := I2.after hq'
      subst ev
      exact ⟨rv, ⟨V.ref (s.heap.objs.size + 1), H', I3, rfl, q3⟩⟩
    | next => exact False.elim hq'
    | brk => exact False.elim hq'
    | cont => exact False.elim hq'
/-- a class that may be made -/
structure Mak (X : Cx) (A : Adr) (rc : Nat → List D → Sto → O R) (c f : Nat) : Prop where
  mkr : Mk X.K (A.cl c) (A.fn f)
  ok : ∃ (k : Nat) (fd : FuncData) (ps : List Str), FnOk X.prog X.w X.K X.mg X.base (L2.CX X.prog X.w) k (A.fn f) fd ps (SPf A X.K rc f) ∧ Room (k + 1) X.A ∧ Binds X.K fd ps []
theorem mk_ok {c f : Nat} {σ : St} {H : Hp} {ρ : Loc} {S : Sto} {M Φ : List Addr} {Q : VK} {ds : List D} {vs : List V} (x : At (A.w Φ) X.K σ H ρ S M) (r : RDs (A.w Φ) X.K M H ds vs)
    (h : Post (A.w Φ) X.K W (RRl (A.w Φ) X.K) σ ρ M H ((rc f (.ref S.length :: ds) (S ++ [.ins c []])).bind fun y S' => match y with
      | .v .non => .ok (.v (.ref S.length)) S'
      | _ => .no) Q) {y dx : Addr} (ny : H y = none) (nd : H dx = none) (ne : dx ≠ y) :
    SPf A X.K rc f (.ref y :: vs) (upd (upd H dx (.own y)) y (.ins (A.cl c) dx [])) (fun v H2 => v = .non ∧ Q (.ref y) H2) (WE W σ) := by
  have ny2 : upd H dx (.own y) y = none := by rw [upd_ne (Ne.symm ne)]; exact ny
  have s0 : Stp X.K M H M (upd (upd H dx (.own y)) y (.ins (A.cl c) dx [])) := (Stp.new nd).trans (.new ny2)
  have s1 : Stp X.K M H (M ++ [y]) (upd (upd H dx (.own y)) y (.ins (A.cl c) dx [])) := s0.join ny
  have x1 : At (A.w Φ) X.K σ (upd (upd H dx (.own y)) y (.ins (A.cl c) dx [])) ρ S M := (x.new nd).new ny2
  have hr : HR (A.w Φ) X.K (M ++ [y]) (upd (upd H dx (.own y)) y (.ins (A.cl c) dx [])) (S ++ [.ins c []]) := x1.hr.join (x.nin ny) ⟨rfl, dx, [], upd_same, .nil⟩
  have hy : (M ++ [y])[S.length]? = some y := x.hr.last y
  refine ⟨Φ, .ref S.length :: ds, S ++ [.ins c []], M ++ [y], HR.free (A := A.w Φ) hr, .cons (.ref hy) (RDs.sub (A := A.w Φ) (fun _ h => h) (r.mono s1)), fun a m => s0.live (x.ff a m), ?_⟩
  generalize rc f (.ref S.length :: ds) (S ++ [.ins c []]) = o at h
  cases o with
  | ok z S' =>
    simp only [O.bind] at h
    split at h
    · intro v H' M' s hr' rr
      cases rr
      refine ⟨rfl, h _ H' M' (s1.trans s) (x.mono (s1.trans s) (HR.free (A := (A.b false).w Φ) hr')) (.ref (s.at_ hy))⟩
    · exact h.elim
  | ex k S' => exact fun H' M' s hr' => h H' M' (s1.trans s) (x.mono (s1.trans s) (HR.free (A := (A.b false).w Φ) hr'))
  | no => exact h
theorem se_mk {c : Nat} {x : Str} {p : Pos} {f : Nat} (ei : P.ini c = some f) (fm : Mak X A rc c f) (hm : X.mg x = some (.ref (A.cl c))) (hg : Gl X x) (hdb : (x == ("__debug__" : Str)) = false) (ha : PA X (e :: es) (tEs P rc A X.K W ces)) (tk : Takes X W)
    (he : starEach (e :: es) X.env = (false, eval e X.env) :: starEach es X.env) (hpl : (backTo pos (starEach es X.env)).any (·.1) = false) :
    PE X (.Call (.Name x p) (e :: es) [] pos) (tE P rc A X.K W (.mk c ces)) := by
  refine ⟨fun pins s σ H Q I h => ?_⟩
  obtain ⟨Φ, ρ, S, M, x, h⟩ := h
  simp only [evE, ei] at h
  obtain ⟨N, k, fd, ps, F, hr, hb⟩ := fm
  have q : tEs P rc A X.K W ces σ H fun vs H1 => ∀ y dx, H1 y = none → H1 dx = none → dx ≠ y → SPf A X.K rc f (.ref y :: vs) (upd (upd H1 dx (.own y)) y (.ins (A.cl c) dx [])) (fun v H2 => v = .non ∧ Q (.ref y) H2) (WE W σ) :=
    ⟨Φ, ρ, S, M, x, Post.bind h fun ds S1 vs H1 M1 s1 x1 rx h1 => fun y dx ny nd ne => mk_ok x1 rx (Post.rbR h1 s1) ny nd ne⟩
  refine wpAny_Call_Name_kw (ld_glob I hg hm ?_ hdb)
  refine PySem.W.callWith_K (h₀ := X.base) I.ok.mod.kin N.kp (thn (ha.run pos pins s σ H _ I q) fun us s1 ⟨vs, H1, I1, r, q⟩ => ⟨I1.kIn, ?_⟩) he hpl
  exact run_makeS N F hr hb (passAt tk σ) I1 r q
/-! ### displays of dicts -/
inductive PV (P : Pg) (rc : Nat → List D → Sto → O R) (A : Adr) (W : WX) (X : Cx) : List Expr → Es → Prop
  | nil : PV P rc A W X [] .nil
  | cons {x : Expr} {xs : List Expr} {e : E} {es : Es} : PE X x (tE P rc A X.K W e) → PV P rc A W X xs es → PV P rc A W X (x :: xs) (.cons e es)
def trs (P : Pg) (rc : Nat → List D → Sto → O R) (A : Adr) (K : PySem.W.Frag) (W : WX) : List Key → Es → List (TE × TE)
  | k :: ks, .cons e es => (fun _ H Q => Q (kV k) H, tE P rc A K W e) :: trs P rc A K W ks es
  | _, _ => []
/-- the written keys of a display -/
def dspB : List Key → List (Option Expr) → Bool
  | [], [] => true
  | .inr x :: ks, some (.Constant (.str y) _ _) :: es => decide (x = y) && dspB ks es
  | .inl x :: ks, some (.Constant (.int y) _ _) :: es => decide (x = y) && dspB ks es
  | _, _ => false
theorem pps_of : ∀ {ks : List Key} {keys : List (Option Expr)} {vals : List Expr} {es : Es}, dspB ks keys = true → keys.length = vals.length → PV P rc A W X vals es → PPs X pos keys vals (trs P rc A X.K W ks es)
  | [], [], _, _, _, hl, pv => by
    cases pv with
    | nil => exact pps_nil
    | cons h r => cases hl
  | .inr x :: ks, some (.Constant (.str y) _ _) :: keys, _, _, h, hl, pv => by
    have h : (decide (x = y) && dspB ks keys) = true := h
    simp only [Bool.and_eq_true, decide_eq_true_eq] at h
    obtain ⟨h0, h'⟩ := h
    subst h0
    cases pv with
    | nil => cases hl
    | cons p r => exact pps_cons pe_str p (pps_of h' (Nat.succ.inj hl) r)
  | .inl x :: ks, some (.Constant (.int y) _ _) :: keys, _, _, h, hl, pv => by
    have h : (decide (x = y) && dspB ks keys) = true := h
    simp only [Bool.and_eq_true, decide_eq_true_eq] at h
    obtain ⟨h0, h'⟩ := h
    subst h0
    cases pv with
    | nil => cases hl
    | cons p r => exact pps_cons pe_int p (pps_of h' (Nat.succ.inj hl) r)
  | [], _ :: _, _, _, h, _, _ => by simp [dspB] at h
  | _ :: _, [], _, _, h, _, _ => by simp [dspB] at h
  | .inr x :: ks, none :: keys, _, _, h, _, _ => by simp [dspB] at h
  | .inl x :: ks, none :: keys, _, _, h, _, _ => by simp [dspB] at h
  | .inr x :: ks, some e :: keys, _, _, h, hl, pv => by
    cases e with
    | Constant c j p =>
      cases c with
      | str y =>
        have h : (decide (x = y) && dspB ks keys) = true := h
        simp only [Bool.and_eq_true, decide_eq_true_eq] at h
        obtain ⟨h0, h'⟩ := h
        subst h0
        cases pv with
        | nil => cases hl
        | cons p r => exact pps_cons pe_str p (pps_of h' (Nat.succ.inj hl) r)
      | _ => simp [dspB] at h
    | _ => simp [dspB] at h
  | .inl x :: ks, some e :: keys, _, _, h, hl, pv => by
    cases e with
    | Constant c j p =>
      cases c with
      | int y =>
        have h : (decide (x = y) && dspB ks keys) = true := h
        simp only [Bool.and_eq_true, decide_eq_true_eq] at h
        obtain ⟨h0, h'⟩ := h
        subst h0
        cases pv with
        | nil => cases hl
        | cons p r => exact pps_cons pe_int p (pps_of h' (Nat.succ.inj hl) r)
      | _ => simp [dspB] at h
    | _ => simp [dspB] at h
theorem dspB_all : ∀ {ks : List Key} {keys : List (Option Expr)}, dspB ks keys = true → keys.all (·.isSome) = true ∧ keys.length = ks.length
  | [], [], _ => ⟨rfl, rfl⟩
  | [], _ :: _, h => by simp [dspB] at h
  | _ :: _, [], h => by simp [dspB] at h
  | .inr x :: ks, none :: keys, h => by simp [dspB] at h
  | .inl x :: ks, none :: keys, h => by simp [dspB] at h
  | .inr x :: ks, some e :: keys, h => by
    have : dspB ks keys = true := by
      cases e with
      | Constant c j p =>
        cases c with
        | str y => exact (Bool.and_eq_true_iff.mp (show (decide (x = y) && dspB ks keys) = true from h)).2
        | _ => simp [dspB] at h
      | _ => simp [dspB] at h
    obtain ⟨h1, h2⟩ := dspB_all this
    exact ⟨by rw [List.all_cons, h1]; rfl, by rw [List.length_cons, List.length_cons, h2]⟩
  | .inl x :: ks, some e :: keys, h => by
    have : dspB ks keys = true := by
      cases e with
      | Constant c j p =>
        cases c with
        | int y => exact (Bool.and_eq_true_iff.mp (show (decide (x = y) && dspB ks keys) = true from h)).2
        | _ => simp [dspB] at h
      | _ => simp [dspB] at h
    obtain ⟨h1, h2⟩ := dspB_all this
    exact ⟨by rw [List.all_cons, h1]; rfl, by rw [List.length_cons, List.length_cons, h2]⟩
theorem pairs_ok {K : PySem.W.Frag} {G : List Addr} {σ : St} {ρ : Loc} : ∀ (es : Es) (xs : List Expr), PV P rc A W X xs es → ∀ (ks : List Key) (H : Hp) (S : Sto) (M : List Addr) (Q : List V → Hp → Prop) (T : List (V × V) → Hp → Prop), xs.length = ks.length → At (A.w G) X.K σ H ρ S M →
    Post (A.w G) X.K W (RDl (A.w G) X.K) σ ρ M H (evEs P rc es ρ S) Q → (∀ vs H2, Q vs H2 → vs.length = ks.length → T ((ks.zip vs).map fun kv => (kV kv.1, kv.2)) H2) → tPairs (trs P rc A X.K W ks es) σ H T := by
  intro es xs pv
  induction pv with
  | nil =>
    intro ks H S M Q T hl x h k
    cases ks with
    | cons a b => cases hl
    | nil =>
      simp only [evEs] at h
      exact k [] H (h [] H M .refl x .nil) rfl
  | @cons ex exs e es p r ih =>
    intro ks H S M Q T hl x h k
    cases ks with
    | nil => cases hl
    | cons kk ks =>
      simp only [evEs] at h
      refine ⟨G, ρ, S, M, x, ?_⟩
      refine (Post.bind (Rl := RDd (A.w G) X.K) h fun d S1 v H1 M1 s1 x1 rd h1 => ?_).valV
      refine ih ks H1 S1 M1 (fun vs H2 => Q (v :: vs) H2) _ (Nat.succ.inj hl) x1 (Post.bind (Post.rbD h1 s1) fun ds S3 vs H3 M3 s3 x3 r3 h3 => h3 (v :: vs) H3 M3 s3 x3 (.cons (RD.mono s3 rd) r3)) fun vs H2 q hlen => ?_
      exact k (v :: vs) H2 q (by rw [List.length_cons, List.length_cons, hlen])
theorem PV.len : ∀ {xs : List Expr} {es : Es}, PV P rc A W X xs es → ∀ {r : Loc} {S S' : Sto} {ds : List D}, evEs P rc es r S = .ok ds S' → ds.length = xs.length := by
  intro xs es pv
  induction pv with
  | nil =>
    intro r S S' ds h
    simp only [evEs] at h
    cases h
    rfl
  | @cons ex exs e es p q ih =>
    intro r S S' ds h
    simp only [evEs] at h
    generalize valO (evE P rc e r S) = o at h
    cases o with
    | ok d S1 =>
      simp only [O.bind] at h
      generalize ho : evEs P rc es r S1 = o2 at h
      cases o2 with
      | ok ds2 S2 =>
        cases h
        rw [List.length_cons, List.length_cons, ih ho]
      | _ => cases h
    | _ => cases h
theorem se_dsp {ks : List Key} {keys : List (Option Expr)} {vals : List Expr} (h1 : dspB ks keys = true) (h2 : 0 < ks.length) (h3 : ks.length ≤ 15) (hl : keys.length = vals.length) (pv : PV P rc A W X vals ces) : PE X (.Dict keys vals pos) (tE P rc A X.K W (.dsp ks ces)) := by
  obtain ⟨g1, g2⟩ := dspB_all h1
  refine (pe_disp (pps_of h1 hl pv) g1 hl (by intro z; rw [z] at g2; rw [← g2] at h2; exact absurd h2 (Nat.lt_irrefl 0)) (by omega)).imp fun σ H Q ⟨Φ, ρ, S, M, x, h⟩ => fun p hp => ?_
  have np := x.nin hp
  have nF := x.nF hp
  have x0 : At (A.w (p :: Φ)) X.K σ (upd H p (.dK [])) ρ S M := ⟨HR.free (A := A.w Φ) (x.hr.new hp), SR.mono (.new hp) (SR.addF (A := A.w Φ) hp x.sr), fun a m => by
    rcases List.mem_cons.mp m with e | m
    · exact ⟨_, by rw [e]; exact upd_same⟩
    · exact (Stp.new (K := X.K) (M := M) hp).live (x.ff a m)⟩
  refine pairs_ok (K := X.K) ces vals pv ks (upd H p (.dK [])) S M (fun vs H2 => H2 p = some (.dK []) ∧ Q (.ref p) (upd H2 p (.dK (mergeK [] (ks.zip vs))))) _ (by omega) x0 ?_ fun vs H2 q hlen => ⟨q.1, ks.zip vs, rfl, by rw [List.length_zip]; omega, q.2⟩
  simp only [evE] at h
  generalize evEs P rc ces ρ S = o at h
  cases o with
  | ok ds S1 =>
    intro vs H' M' s x' r
    obtain ⟨_, h⟩ := Post.ifP h
    have k1 : H' p = some (.dK []) := s.keep p _ upd_same np
    have np' : p ∉ M' := s.nin upd_same np
    refine ⟨k1, ?_⟩
    have mem : p ∈ (A.w (p :: Φ)).F := List.mem_cons_self
    have s' : Stp X.K M H M' (upd H' p (.dK (mergeK [] (ks.zip vs)))) := ((Stp.new hp).trans s).updG hp
    have x2 : At (A.w Φ) X.K σ (upd H' p (.dK (mergeK [] (ks.zip vs)))) ρ S1 M' := (x'.updG k1 (fun _ => nofun) mem np').less fun _ h => List.mem_cons_of_mem _ h
    have r2 : RDs (A.w Φ) X.K M' (upd H' p (.dK (mergeK [] (ks.zip vs)))) ds vs := RDs.sub (A := A.w (p :: Φ)) (fun _ h => List.mem_cons_of_mem _ h) (r.updG k1 (fun _ => nofun) mem)
    exact h _ _ M' s' x2 ⟨p, _, rfl, hp, np', nF, upd_same, (RKs.of r2).merge .nil⟩
  | ex k S1 => exact fun H' M' s x' => h H' M' ((Stp.new hp).trans s) (x'.less fun _ h => List.mem_cons_of_mem _ h)
  | no => exact h
/-! ### get, pop of a dict -/
theorem Post.ev2 {K : PySem.W.Frag} {σ : St} {ρ : Loc} {M : List Addr} {H : Hp} {S : Sto} {α β : Type} {Rl : Rel α β} {f : List D → Sto → O α} {Q : β → Hp → Prop} (h : Post A K W Rl σ ρ M H ((evEs P rc (.cons ca (.cons cb .nil)) ρ S).bind f) Q) :
    Post A K W Rl σ ρ M H ((valO (evE P rc ca ρ S)).bind fun d S => (valO (evE P rc cb ρ S)).bind fun d2 S => f [d, d2] S) Q := by
  simp only [evEs] at h
  generalize valO (evE P rc ca ρ S) = o at h
  cases o with
  | ok d S1 =>
    simp only [O.bind] at h ⊢
    generalize valO (evE P rc cb ρ S1) = o at h
    cases o <;> exact h
  | _ => exact h
theorem se_get2 {x : Str} {apos : Pos} {cz : E} {e2 : Expr} (hu : X.A.units + 65 < cLine) (hx : x = Bm.get2.nm) (ho : PE X o (tE P rc A X.K W co)) (hk : PE X e (tE P rc A X.K W ck)) (hz : PE X e2 (tE P rc A X.K W cz))
    (hbase : attributeBase o x X.env (eval o X.env) = eval o X.env) (hline : (apos.endLine == pos.line) = true) (hs : starEach [e, e2] X.env = (false, eval e X.env) :: starEach [e2] X.env) (hs2 : starEach [e2] X.env = (false, eval e2 X.env) :: starEach [] X.env) :
    PE X (.Call (.Attribute o x apos) [e, e2] [] pos) (tE P rc A X.K W (.bm .get2 co (.cons ck (.cons cz .nil)))) := by
  subst hx
  refine (pe_dget2 (by omega) ho hk hz (few2 hs hs2 hbase hline)).imp fun σ H Q ⟨Φ, ρ, S, M, x, h⟩ => ⟨Φ, ρ, S, M, x, ?_⟩
  refine Post.bind h fun r1 S1 v H1 M1 s1 x1 rx h1 => ?_
  obtain ⟨ok, h1⟩ := Post.ifP (Post.rbR h1 s1)
  obtain ⟨p, rfl, hd⟩ := dOk x1.hr rx ok
  refine ⟨p, rfl, hd, Φ, ρ, S1, M1, x1, ?_⟩
  refine Post.valV (Post.bind (Rl := RDd (A.w Φ) X.K) (Post.ev2 h1) fun d S2 u H2 M2 s2 x2 rd h2 => ?_)
  refine ⟨Φ, ρ, S2, M2, x2, ?_⟩
  refine Post.valV (Post.bind (Rl := RDd (A.w Φ) X.K) (Post.rbR h2 s2) fun d2 S3 u2 H3 M3 s3 x3 rd2 h3 => ?_)
  obtain ⟨y, S4, e, q⟩ := Post.pair (Post.rbR h3 s3)
  obtain ⟨o', e1, rfl, rfl⟩ := bmR_get2 e
  have ok2 : ((dkOf S4 r1).isSome || (dtOf S4 r1).isSome) = true := by
    have : (dgR S4 r1 (.v d)).isSome = true := by rw [e1]; rfl
    unfold dgR at this
    split at this
    · cases ok
    · cases q1 : dkOf S4 r1 with
      | some _ => rfl
      | none =>
        rw [q1] at this
        cases q2 : dtOf S4 r1 with
        | some _ => rfl
        | none => rw [q2] at this; cases this
  obtain ⟨w, g, hw⟩ := dget_of (Hy := H3) x3.hr ok2 e1 ((rx.mono s2).mono s3) (rd.mono s3)
  refine ⟨w, g, ?_⟩
  rcases hw with ⟨rfl, rfl⟩ | ⟨d', z, rfl, rfl, rz⟩
  · exact q _ H3 M3 .refl x3 rd2
  · exact q _ H3 M3 .refl x3 rz
theorem noL_del {k : Key} : ∀ {l : List (Key × D)}, noLs (l.map (·.2)) = true → noLs ((delA k l).map (·.2)) = true := fun {l} h => noLs_mem.mpr fun z hz => by
  obtain ⟨p, hp, rfl⟩ := List.mem_map.mp hz
  exact noLs_mem.mp h _ (List.mem_map.mpr ⟨p, (List.mem_filter.mp hp).1, rfl⟩)
theorem bmR_popK {S : Sto} {x : R} {y : D} {z : R} {S' : Sto} (e : bmR .popK S x [y] = some (z, S')) : ∃ a kvs k d, x = .v (.ref a) ∧ S[a]? = some (.dk kvs) ∧ keyD y = some k ∧ getA k kvs = some d ∧ z = .v d ∧ S' = S.set a (.dk (delA k kvs)) := by
  cases x with
  | v w =>
    cases w with
    | ref a =>
      have e : (match S[a]? with
        | some (.dk kvs) => match keyD y with
          | some k => match getA k kvs with
            | some d => some (R.v d, S.set a (.dk (delA k kvs)))
            | none => none
          | none => none
        | _ => none) = some (z, S') := e
      split at e
      · next kvs e1 =>
        split at e
        · next k e2 =>
          split at e
          · next d e3 =>
            cases e
            exact ⟨a, kvs, k, d, rfl, e1, e2, e3, rfl, rfl⟩
          · cases e
        · cases e
      · cases e
    | _ => cases e
  | _ => cases e
theorem se_popK {x : Str} {apos : Pos} (hx : x = Bm.popK.nm) (ho : PE X o (tE P rc A X.K W co)) (hk : PE X e (tE P rc A X.K W ck))
    (hbase : attributeBase o x X.env (eval o X.env) = eval o X.env) (hline : (apos.endLine == pos.line) = true) (hs : starEach [e] X.env = (false, eval e X.env) :: starEach [] X.env) :
    PE X (.Call (.Attribute o x apos) [e] [] pos) (tE P rc A X.K W (.bm .popK co (.cons ck .nil))) := by
  subst hx
  refine (pe_dpop1 ho hk (few1 hs hbase hline)).imp fun σ H Q ⟨Φ, ρ, S, M, x, h⟩ => ⟨Φ, ρ, S, M, x, ?_⟩
  refine Post.bind h fun r1 S1 v H1 M1 s1 x1 rx h1 => ?_
  obtain ⟨ok, h1⟩ := Post.ifP (Post.rbR h1 s1)
  obtain ⟨p, rfl, hd⟩ := dOk x1.hr rx (by
    have ok : (dkOf S1 r1).isSome = true := ok
    rw [ok]
    rfl)
  refine ⟨p, rfl, hd, Φ, ρ, S1, M1, x1, ?_⟩
  refine Post.valV (Post.bind (Rl := RDd (A.w Φ) X.K) (Post.ev1 h1) fun d S2 u H2 M2 s2 x2 rd h2 => ?_)
  obtain ⟨y, S3, e, q⟩ := Post.pair (Post.rbR h2 s2)
  obtain ⟨i, kvs, k, d', rfl, e1, e2, e3, rfl, rfl⟩ := bmR_popK e
  have hk := keyD_ok e2 rd
  subst hk
  cases RR.mono s2 rx with
  | ref ha =>
    obtain ⟨nl, ws, ho', rk⟩ := x2.hr.at_ e1 ha
    rcases rk.get (k := k) with ⟨g1, g2⟩ | ⟨d2, z, g1, g2, g3⟩
    · rw [g1] at e3; cases e3
    · rw [g1] at e3
      cases e3
      have s3 : Stp X.K M2 H2 M2 (upd H2 p (.dK (dropK ws k))) := stp_at x2.hr e1 ha
      obtain ⟨s4, h4⟩ := set_hr (u := .dK (dropK ws k)) x2.hr e1 ha (o' := .dk (delA k kvs)) ⟨noL_del nl, _, upd_same, rk.del.mono s3⟩
      exact ⟨ws, k, z, ho', rfl, g2, q _ _ M2 s4 (x2.mono s4 h4) (RD.mono s4 g3)⟩
end
end Pl
/-! setdefault of a dict by tuples; f-strings; zip, reversed. -/
namespace L2
open PySem PySem.Spec PyProof.Rows
section
variable {X : Cx} {pins : List (Addr × Obj)} {σ : L2.St} {H : Hp} {s : Shared} {a b : Addr} {r : Value} {d : V} {A : Around} {E : Value → Shared → Prop}
theorem d_setdT {kvs : List (List Key × V)} {k : List Key} {Q : Value → Shared → Prop} (hu : A.units + 1 < cLine) (I : Inv X pins σ H s) (e : H a = some (.dT kvs)) (eb : H b = some (.tup (k.map kV))) (rd : RelV d r) (hl : kvs.length < sizeLine)
    (h1 : ∀ v, valV kvs k = some v → ∀ (w' : Value) (s' : Shared), Inv X pins σ H s' → RelV v w' → Q w' s') (h2 : valV kvs k = none → ∀ (w' : Value) (s' : Shared), Inv X pins σ (upd H a (.dT (putK kvs k d))) s' → RelV d w' → Q w' s') :
    wpAny (model X.prog X.w) A (call (.builtin "dict.setdefault") [.ref a, .ref b, r]) Q E s := by
  obtain ⟨z, hd, xs, rel, dd⟩ := dt_of I.hok e
  have hz : xs.length ≤ sizeLine := by rw [← Paired.length rel]; exact z
  refine call_setdefault_heap (hsz := hz) (tupleKind_room_in1 hu) (key_of I.hok eb) hd dd (fun p hp => ?_) fun hn h' dd' hs => ?_
  · have q := rel.val k
    rw [hp] at q
    cases q0 : valV kvs k with
    | none =>
      rw [q0] at q
      exact (show False from q).elim
    | some v0 =>
      rw [q0] at q
      exact h1 v0 q0 _ _ (I.tok _) q
  · have q := rel.val k
    rw [hn] at q
    cases q0 : valV kvs k with
    | some v0 =>
      rw [q0] at q
      exact (show False from q).elim
    | none =>
      have hl2 : (putK kvs k d).length ≤ sizeLine := by
        have := length_putK kvs k d
        omega
      obtain ⟨q, es, ep, hq, g2, g3, g4, _, g5⟩ := dd'
      exact h2 q0 _ _ (d_write (t' := s.toks + (tupleKind (mixKind X.prog X.w)).draws k) I (by rw [e]; exact True.intro) hs ⟨q, hq⟩ ⟨hl2, hd, _, (rel.put k eb rd).keeps fun c ys ec => (by rw [upd_ne (ne_of ec e (fun z => nomatch z))]; exact ec), q, es, ep, hq, g2, g3, g4, g5⟩) rd
end
/-- d.setdefault(y, z), the keys tuples -/
def tDSetdT (td ty tx : TE) : TE := fun σ H Q => td σ H fun x H1 => ∃ a, x = .ref a ∧ IsD H1 a ∧ ty σ H1 fun y H2 => tx σ H2 fun z H3 => ∃ (kvs : List (List Key × V)) (k : List Key) (b : Addr), H3 a = some (.dT kvs) ∧ y = .ref b ∧ H3 b = some (.tup (k.map kV)) ∧ kvs.length < sizeLine ∧
  (∀ v, valV kvs k = some v → Q v H3) ∧ (valV kvs k = none → Q z (upd H3 a (.dT (putK kvs k z))))
section
variable {X : Cx} {o e f : Expr} {td ty tx : TE} {apos cpos : Pos}
theorem pe_dsetdT (hu : X.A.units + 1 < cLine) (ho : PE X o td) (he : PE X e ty) (hf : PE X f tx) (m : M2 X o "setdefault" apos e f cpos) : PE X (.Call (.Attribute o "setdefault" apos) [e, f] [] cpos) (tDSetdT td ty tx) := by
  refine ⟨fun pins s σ H Q I h => ?_⟩
  refine wpAny_Call_method m.base m.few m.line PySem.F.plainAttrs_dict PySem.F.slot_dict_setdefault PySem.F.type_dict_setdefault (thn (ho.run pins s σ H _ I h) fun u s1 ⟨x, H1, I1, rx, a, ex, d, q1⟩ => ?_)
  subst ex
  obtain rfl : u = Value.ref a := rx
  obtain ⟨t1, t2, _⟩ := isD_at I1 d
  refine ⟨t1, t2, ?_⟩
  rw [m.trees]
  refine Calls.callWith_builtin rfl (Calls.evalArgs_plain (Calls.spliced_cons (thn (he.run pins s1 σ H1 _ I1 q1) fun iv s2 ⟨y, H2, I2, ry, q2⟩ =>
    Calls.spliced_cons (thn (hf.run pins s2 σ H2 _ I2 q2) fun fv s3 ⟨z, H3, I3, rz, kvs, k, b, ea, ey, eb, hl, q3, q4⟩ => Calls.spliced_nil ?_))))
  subst ey
  obtain rfl : iv = Value.ref b := ry
  exact d_setdT hu I3 ea eb rz hl (fun v hv w' s4 I4 rw' => ⟨v, _, I4, rw', q3 v hv⟩) fun hn w' s4 I4 rw' => ⟨z, _, I4, rw', q4 hn⟩
end
end L2
namespace Pl
open PySem PySem.Spec
open PyProof.Rows hiding St
open L2
section
variable {P : Pg} {rc : Nat → List D → Sto → O R} {A : Adr} {W : WX} {X : Cx} {pos : Pos} {a b e o : Expr} {ca cb ck co : E}
theorem bmR_setd {S : Sto} {x : R} {y d : D} {z : R} {S' : Sto} (e0 : bmR .setd S x [y, d] = some (z, S')) : ∃ a kvs es k, x = .v (.ref a) ∧ S[a]? = some (.dt kvs) ∧ y = .tup es ∧ keyDs es = some k ∧ kvs.length < sizeLine ∧ noL d = true ∧
    ((∃ v, getA k kvs = some v ∧ z = .v v ∧ S' = S) ∨ (getA k kvs = none ∧ z = .v d ∧ S' = S.set a (.dt (putM k d kvs)))) := by
  cases x with
  | v w =>
    cases w with
    | ref a =>
      have e : (match S[a]? with
        | some (.dt kvs) => match (generalizing := false) y with
          | .tup es => match keyDs es with
            | some k => if kvs.length < sizeLine ∧ noL d = true then (match getA k kvs with
              | some v => some (R.v v, S)
              | none => some (R.v d, S.set a (.dt (putM k d kvs)))) else none
            | none => none
          | _ => none
        | _ => none) = some (z, S') := e0
      split at e
      · next kvs e1 =>
        split at e
        · next es =>
          split at e
          · next k e2 =>
            split at e
            · next hc =>
              split at e
              · next v e3 =>
                cases e
                exact ⟨a, kvs, es, k, rfl, e1, rfl, e2, hc.1, hc.2, .inl ⟨v, e3, rfl, rfl⟩⟩
              · next e3 =>
                cases e
                exact ⟨a, kvs, es, k, rfl, e1, rfl, e2, hc.1, hc.2, .inr ⟨e3, rfl, rfl⟩⟩
            · cases e
          · cases e
        · cases e
      · cases e
    | _ => cases e0
  | _ => cases e0
theorem se_setd {x : Str} {apos : Pos} {cz : E} {e2 : Expr} (hu : X.A.units + 65 < cLine) (hx : x = Bm.setd.nm) (ho : PE X o (tE P rc A X.K W co)) (hk : PE X e (tE P rc A X.K W ck)) (hz : PE X e2 (tE P rc A X.K W cz))
    (hbase : attributeBase o x X.env (eval o X.env) = eval o X.env) (hline : (apos.endLine == pos.line) = true) (hs : starEach [e, e2] X.env = (false, eval e X.env) :: starEach [e2] X.env) (hs2 : starEach [e2] X.env = (false, eval e2 X.env) :: starEach [] X.env) :
    PE X (.Call (.Attribute o x apos) [e, e2] [] pos) (tE P rc A X.K W (.bm .setd co (.cons ck (.cons cz .nil)))) := by
  subst hx
  refine (pe_dsetdT (by omega) ho hk hz (few2 hs hs2 hbase hline)).imp fun σ H Q ⟨Φ, ρ, S, M, x, h⟩ => ⟨Φ, ρ, S, M, x, ?_⟩
  refine Post.bind h fun r1 S1 v H1 M1 s1 x1 rx h1 => ?_
  obtain ⟨ok, h1⟩ := Post.ifP (Post.rbR h1 s1)
  obtain ⟨p, rfl, hd⟩ := dOk x1.hr rx (by
    have ok : (dtOf S1 r1).isSome = true := ok
    rw [ok, Bool.or_true])
  refine ⟨p, rfl, hd, Φ, ρ, S1, M1, x1, ?_⟩
  refine Post.valV (Post.bind (Rl := RDd (A.w Φ) X.K) (Post.ev2 h1) fun d S2 u H2 M2 s2 x2 rd h2 => ?_)
  refine ⟨Φ, ρ, S2, M2, x2, ?_⟩
  refine Post.valV (Post.bind (Rl := RDd (A.w Φ) X.K) (Post.rbR h2 s2) fun d2 S3 u2 H3 M3 s3 x3 rd2 h3 => ?_)
  obtain ⟨y, S4, e, q⟩ := Post.pair (Post.rbR h3 s3)
  obtain ⟨i, kvs, es, k, rfl, e1, rfl, e2, hl, hn, hc⟩ := bmR_setd e
  cases RR.mono s3 (RR.mono s2 rx) with
  | ref ha =>
    obtain ⟨nl, ws, ho', rk⟩ := x3.hr.at_ e1 ha
    cases RD.mono s3 rd with
    | @tup b vs _ hb rs =>
      have hk := keyDs_ok e2 rs
      subst hk
      refine ⟨ws, k, b, ho', rfl, hb, by rw [← rk.len]; exact hl, fun v hv => ?_, fun hv => ?_⟩
      · rcases rk.get (k := k) with ⟨g1, g2⟩ | ⟨d3, z, g1, g2, g3⟩
        · rw [g2] at hv; cases hv
        · rw [g2] at hv
          cases hv
          rcases hc with ⟨v', c1, rfl, rfl⟩ | ⟨c1, _, _⟩
          · rw [g1] at c1
            cases c1
            exact q _ H3 M3 .refl x3 g3
          · rw [g1] at c1; cases c1
      · rcases rk.get (k := k) with ⟨g1, g2⟩ | ⟨d3, z, g1, g2, g3⟩
        · rcases hc with ⟨v', c1, _, _⟩ | ⟨c1, rfl, rfl⟩
          · rw [g1] at c1; cases c1
          · have s4 : Stp X.K M3 H3 M3 (upd H3 p (.dT (putK ws k u2))) := stp_at x3.hr e1 ha
            obtain ⟨s5, h5⟩ := set_hr (u := .dT (putK ws k u2)) x3.hr e1 ha (o' := .dt (putM k d2 kvs)) ⟨noL_put nl hn, _, upd_same, (rk.putM rd2).mono s4⟩
            exact q _ _ M3 s5 (x3.mono s5 h5) (RD.mono s5 rd2)
        · rw [g2] at hv; cases hv
/-! ### f-strings -/
/-- the expressions in an f-string -/
def fsX : List Expr → List Expr
  | [] => []
  | .FormattedValue e _ _ _ :: xs => e :: fsX xs
  | x :: xs => x :: fsX xs
def fsL : List Expr → Es → Bool
  | [], .nil => true
  | .FormattedValue _ (.negSucc 0) none _ :: xs, .cons _ es => fsL xs es
  | .Constant (.str x) _ _ :: xs, .cons (.str y) es => decide (x = y) && fsL xs es
  | _, _ => false
def fsB : List Expr → Bool
  | _ :: _ :: _ => true
  | _ => false
def tFs (P : Pg) (rc : Nat → List D → Sto → O R) (A : Adr) (K : PySem.W.Frag) (W : WX) (es : Es) (acc : Str) (σ : L2.St) (H : Hp) (Q : Str → Hp → Prop) : Prop := ∃ Φ ρ S M, At (A.w Φ) K σ H ρ S M ∧ Post (A.w Φ) K W RB σ ρ M H (evFs P rc es acc ρ S) Q
theorem fs1_ok {K : PySem.W.Frag} {M : List Addr} {H : Hp} {d : D} {v : V} {y : Str} (r : RD A K M H d v) (e0 : fs1 d = some y) : (v = .str y ∧ y.length ≤ sizeLine) ∨ ∃ i : Int, v = .int i ∧ i.natAbs.log2 < 1920 ∧ y = figs i := by
  cases d with
  | str x =>
    cases r
    have e : (if x.length ≤ sizeLine then some x else none) = some y := e0
    by_cases h : x.length ≤ sizeLine
    · rw [if_pos h] at e; cases e; exact .inl ⟨rfl, h⟩
    · rw [if_neg h] at e; cases e
  | int i =>
    cases r
    have e : (if i.natAbs.log2 < 1920 then some (figs i) else none) = some y := e0
    by_cases h : i.natAbs.log2 < 1920
    · rw [if_pos h] at e; cases e; exact .inr ⟨i, rfl, h, rfl⟩
    · rw [if_neg h] at e; cases e
  | _ => cases e0
theorem fs_ok : ∀ {xs : List Expr} {es : Es}, fsL xs es = true → PV P rc A W X (fsX xs) es → ∃ ts, PJ X xs ts ∧ ∀ acc σ H Q, tFs P rc A X.K W es acc σ H Q → tJs ts acc σ H Q
  | [], es, _, pv => by
    cases pv
    refine ⟨[], .nil, fun acc σ H Q ⟨Φ, ρ, S, M, x, h⟩ => ?_⟩
    exact h acc H M .refl x rfl
  | x :: xs, es, hl, pv => by
    have step : ∀ (y : Expr) (c : E) (es : Es) (t : TE), (∀ σ H Q, (∃ Φ ρ S M, At (A.w Φ) X.K σ H ρ S M ∧ Post (A.w Φ) X.K W (RDd (A.w Φ) X.K) σ ρ M H (valO (evE P rc c ρ S)) fun v H1 => ∃ z : Str, ((v = .str z ∧ z.length ≤ sizeLine) ∨ ∃ i : Int, v = .int i ∧ i.natAbs.log2 < 1920 ∧ z = figs i) ∧ Q (V.str z) H1) → t σ H Q) →
        (∃ ts, PJ X xs ts ∧ ∀ acc σ H Q, tFs P rc A X.K W es acc σ H Q → tJs ts acc σ H Q) → PE X y t → ∃ ts, PJ X (y :: xs) ts ∧ ∀ acc σ H Q, tFs P rc A X.K W (.cons c es) acc σ H Q → tJs ts acc σ H Q := by
      intro y c es t ht ⟨ts, pj, ih⟩ py
      refine ⟨t :: ts, .cons py pj, fun acc σ H Q ⟨Φ, ρ, S, M, x, h⟩ => ht σ H _ ⟨Φ, ρ, S, M, x, ?_⟩⟩
      have h : Post (A.w Φ) X.K W RB σ ρ M H ((valO (evE P rc c ρ S)).bind fun x S => match fs1 x with
        | some y => if (acc ++ y).length ≤ sizeLine then evFs P rc es (acc ++ y) ρ S else .no
        | none => .no) Q := h
      refine Post.bind h fun d S1 v H1 M1 s1 x1 rd h1 => ?_
      cases e : fs1 d with
      | none => rw [e] at h1; exact h1.elim
      | some z =>
        rw [e] at h1
        obtain ⟨hz, h1⟩ := Post.ifP h1
        exact ⟨z, fs1_ok rd e, z, rfl, hz, ih _ _ _ _ ⟨Φ, ρ, S1, M1, x1, Post.rbB h1 s1⟩⟩
    cases x with
    | FormattedValue e c f p =>
      cases c with
      | ofNat n => exact absurd hl Bool.false_ne_true
      | negSucc n =>
        cases n with
        | succ n => exact absurd hl Bool.false_ne_true
        | zero =>
          cases f with
          | some _ => exact absurd hl Bool.false_ne_true
          | none =>
            cases pv with
            | @cons _ _ c es pe pv =>
              refine step _ c es (tFmt (tE P rc A X.K W c)) (fun σ H Q ⟨Φ, ρ, S, M, x, h⟩ => ⟨Φ, ρ, S, M, x, Post.valV (Post.imp h fun v H1 ⟨z, hv, q⟩ => ?_)⟩) (fs_ok hl pv) (pe_fmt pe)
              rcases hv with ⟨rfl, h1⟩ | ⟨i, rfl, h1, rfl⟩
              · exact .inl ⟨z, rfl, h1, q⟩
              · exact .inr ⟨i, rfl, h1, q⟩
    | Constant c k p =>
      cases c with
      | str y =>
        cases pv with
        | @cons _ _ c2 es2 pe2 pv2 =>
          cases c2 with
          | str z =>
            have hl2 : (decide (y = z) && fsL xs es2) = true := hl
            rw [Bool.and_eq_true, decide_eq_true_eq] at hl2
            obtain ⟨hyz, hl3⟩ := hl2
            subst hyz
            obtain ⟨ts, pj, ih⟩ := fs_ok hl3 pv2
            refine ⟨tC (.str y) :: ts, .cons pe_str pj, fun acc σ H Q ⟨Φ, ρ, S, M, x, h⟩ => ?_⟩
            have h : Post (A.w Φ) X.K W RB σ ρ M H (match fs1 (.str y) with
              | some y => if (acc ++ y).length ≤ sizeLine then evFs P rc es2 (acc ++ y) ρ S else .no
              | none => .no) Q := h
            unfold fs1 at h
            by_cases hy : y.length ≤ sizeLine
            · simp only [if_pos hy] at h
              obtain ⟨hz, h⟩ := Post.ifP h
              exact ⟨y, rfl, hz, ih _ _ _ _ ⟨Φ, ρ, S, M, x, h⟩⟩
            · simp only [if_neg hy] at h
              exact h.elim
          | _ => exact absurd hl Bool.false_ne_true
      | _ => exact absurd hl Bool.false_ne_true
    | _ => exact absurd hl Bool.false_ne_true
theorem se_fst {xs : List Expr} {es : Es} (h1 : fsB xs = true) (h2 : fsL xs es = true) (pv : PV P rc A W X (fsX xs) es) : PE X (.JoinedStr xs pos) (tE P rc A X.K W (.fst es)) := by
  obtain ⟨ts, pj, ih⟩ := fs_ok h2 pv
  cases xs with
  | nil => cases h1
  | cons x xs =>
    cases xs with
    | nil => cases h1
    | cons y xs =>
      refine (pe_joined pj).imp fun σ H Q ⟨Φ, ρ, S, M, x, h⟩ => ih _ _ _ _ ⟨Φ, ρ, S, M, x, ?_⟩
      have h : Post (A.w Φ) X.K W (RRl (A.w Φ) X.K) σ ρ M H ((evFs P rc es Str.empty ρ S).bind fun x S => .ok (.v (.str x)) S) Q := h
      exact Post.bind h fun z S1 v H1 M1 s1 x1 e h1 => by
        obtain rfl : z = v := e
        exact h1 _ H1 M1 s1 x1 (.str _)
/-! ### zip, reversed -/
section
variable {K : PySem.W.Frag} {Ps Pt : List Addr → List Addr → Hp → Prop} {ks ls : List (Nat × Ob)} {items jtems : List D} {p q : Addr}
theorem LSrv.zip (L : LSrv A K Ps p ks items) (L2 : LSrv A K Pt q ls jtems) : Serve A K (fun F M H => Ps F M H ∧ Pt F M H) (Itz K p q) (ks ++ ls) (zipD items jtems) where
  keep := fun F M H F' M' H' h s => ⟨L.keep F M H F' M' H' h.1 s, L2.keep F M H F' M' H' h.2 s⟩
  go := fun F i d S M H hr h k e => by
    obtain ⟨vs, h1, r⟩ := L.at_ F S M H hr h.1 fun z hz => k z (List.mem_append_left _ hz)
    obtain ⟨ws, h2, r2⟩ := L2.at_ F S M H hr h.2 fun z hz => k z (List.mem_append_right _ hz)
    obtain ⟨d1, d2, e1, e2, rfl⟩ := zipD_get _ _ _ _ e
    obtain ⟨v, g1, rd1⟩ := r.get e1
    obtain ⟨w, g2, rd2⟩ := r2.get e2
    refine ⟨⟨vs, ws, v, w, h1, h2, g1, g2⟩, fun x H' y => ?_⟩
    obtain ⟨T, z1, z2, rfl, n, rfl, y1, y2⟩ := y
    have f1 := y1 vs h1
    have f2 := y2 ws h2
    rw [g1] at f1
    rw [g2] at f2
    cases f1
    cases f2
    exact ⟨.new n, hr.new n, RD.tup upd_same (.cons (rd1.mono (.new n)) (.cons (rd2.mono (.new n)) .nil))⟩
  stop := fun F S M H hr h k => by
    obtain ⟨vs, h1, r⟩ := L.at_ F S M H hr h.1 fun z hz => k z (List.mem_append_left _ hz)
    obtain ⟨ws, h2, r2⟩ := L2.at_ F S M H hr h.2 fun z hz => k z (List.mem_append_right _ hz)
    refine ⟨vs, ws, h1, h2, ?_⟩
    rw [zipD_len, r.length, r2.length]
    omega
theorem LSrv.rev {n : Nat} (L : LSrv A K Ps p ks items) (hn : n = items.length) : Serve A K Ps (Itv K p n) ks items.reverse where
  keep := L.keep
  go := fun F i d S M H hr h k e => by
    obtain ⟨vs, h1, r⟩ := L.at_ F S M H hr h k
    have hi : i < items.length := by
      have := (List.getElem?_eq_some_iff.mp e).1
      rwa [List.length_reverse] at this
    rw [List.getElem?_reverse hi] at e
    obtain ⟨v, g1, rd1⟩ := r.get e
    subst hn
    refine ⟨⟨hi, vs, v, h1, g1⟩, fun x H' y => ?_⟩
    obtain ⟨rfl, y⟩ := y
    have f1 := y vs h1
    rw [g1] at f1
    cases f1
    exact ⟨.refl, hr, rd1⟩
  stop := fun F S M H hr h k => by
    show n ≤ _
    rw [List.length_reverse, hn]
    exact Nat.le_refl _
end
theorem si_zp {elts : List Expr} {kk} {tpos p : Pos} (hg : Gl X "zip") (hm : X.mg "zip" = none) (ha : PE X a (tE P rc A X.K W ca)) (hb : PE X b (tE P rc A X.K W cb)) (hs : starEach [a, b] X.env = (false, eval a X.env) :: starEach [b] X.env) (hs2 : starEach [b] X.env = (false, eval b X.env) :: starEach [] X.env) :
    PI X (.Tuple elts kk tpos) (.Call (.Name "zip" p) [a, b] [] pos) (tIt P rc A X.K W (.zp ca cb)) := by
  refine (pi_zip hg hm (pa_cons ha (pa_cons hb pa_nil hs2) hs) hs (by rw [hs2]; rfl)).imp fun σ H Q ⟨Φ, ρ, S, M, x, h⟩ => ⟨Φ, ρ, S, M, x, ?_⟩
  refine Post.bind h fun r S1 v H1 M1 s1 x1 rx h1 => ⟨Φ, ρ, S1, M1, x1, ?_⟩
  refine Post.bind2 s1 h1 fun r2 S2 u H2 M2 s2 x2 ry h2 => ?_
  cases e1 : lsOf S2 r with
  | none => rw [e1] at h2; exact h2.elim
  | some ds =>
    cases e2 : lsOf S2 r2 with
    | none => rw [e1, e2] at h2; exact h2.elim
    | some es =>
      cases e3 : srcOf S2 r with
      | none => rw [e1, e2, e3] at h2; exact h2.elim
      | some sr =>
        cases e4 : srcOf S2 r2 with
        | none => rw [e1, e2, e3, e4] at h2; exact h2.elim
        | some sr2 =>
          rw [e1, e2, e3, e4] at h2
          obtain ⟨pa, Ps, rfl, L, hp, k, _, _⟩ := lsrv_of (A := A.w Φ) (F := Φ) x2.hr (RR.mono s2 rx) e1 e3
          obtain ⟨pb, Pt, rfl, L2, hq, k2, _, _⟩ := lsrv_of (A := A.w Φ) (F := Φ) x2.hr ry e2 e4
          obtain ⟨vs, g1, r1⟩ := L.at_ _ S2 M2 H2 x2.hr hp k
          obtain ⟨ws, g2, r2⟩ := L2.at_ _ S2 M2 H2 x2.hr hq k2
          exact ⟨pa, pb, vs, ws, rfl, g1, g2, h2 _ H2 M2 (s1.trans s2) x2 ⟨_, L.zip L2, ⟨hp, hq⟩, fun z => by cases z⟩⟩
theorem si_rv {p : Pos} {tg : Expr} (hg : Gl X "reversed") (hm : X.mg "reversed" = none) (ha : PE X a (tE P rc A X.K W ca)) (hs : starEach [a] X.env = (false, eval a X.env) :: starEach [] X.env) : PI X tg (.Call (.Name "reversed" p) [a] [] pos) (tIt P rc A X.K W (.rv ca)) := by
  refine (pi_reversed hg hm (pa_cons ha pa_nil hs) hs).imp fun σ H Q ⟨Φ, ρ, S, M, x, h⟩ => ⟨Φ, ρ, S, M, x, ?_⟩
  refine Post.bind h fun r S1 v H1 M1 s1 x1 rx h1 => ?_
  cases e1 : lsOf S1 r with
  | none => rw [e1] at h1; exact h1.elim
  | some ds =>
    cases e3 : srcOf S1 r with
    | none => rw [e1, e3] at h1; exact h1.elim
    | some sr =>
      rw [e1, e3] at h1
      obtain ⟨pa, Ps, rfl, L, hp, k, _, _⟩ := lsrv_of (A := A.w Φ) (F := Φ) x1.hr rx e1 e3
      obtain ⟨vs, g1, r1⟩ := L.at_ _ S1 M1 H1 x1.hr hp k
      exact ⟨pa, vs, rfl, g1, h1 _ H1 M1 s1 x1 ⟨_, L.rev r1.length.symm, hp, fun z => by cases z⟩⟩
end
end Pl
/-! sorted by the first of each item; a range downward. -/
namespace Pl
open PySem PySem.Spec
open PyProof.Rows hiding St
open L2
theorem fst_pairs {A : Adr} {K : PySem.W.Frag} {M : List Addr} {H : Hp} : ∀ {ds : List D} {xs : List V}, RDs A K M H ds xs → (ds.all fun d => (fstD d).isSome) = true →
    ∃ l : List (V × D), xs = l.map (·.1) ∧ ds = l.map (·.2) ∧ ∀ p ∈ l, RD A K M H p.2 p.1 ∧ ∃ t ys, p.1 = .ref t ∧ SqT K H t (.int ((fstD p.2).getD 0) :: ys)
  | [], _, .nil, _ => ⟨[], rfl, rfl, fun _ h => by simp at h⟩
  | d :: ds, _, .cons (v := x) h r, e => by
    simp only [List.all_cons, Bool.and_eq_true] at e
    obtain ⟨l, e1, e2, e3⟩ := fst_pairs r e.2
    refine ⟨(x, d) :: l, by rw [e1]; rfl, by rw [e2]; rfl, fun p hp => ?_⟩
    rcases List.mem_cons.mp hp with rfl | hp
    · refine ⟨h, ?_⟩
      have e0 := e.1
      unfold fstD at e0 ⊢
      split at e0
      · next i ds' =>
        cases h with
        | tup hb r2 =>
          cases r2 with
          | cons h0 r3 =>
            cases h0
            exact ⟨_, _, rfl, .of hb⟩
      · cases e0
    · exact e3 p hp
theorem rds_pairs {A : Adr} {K : PySem.W.Frag} {M : List Addr} {H : Hp} : ∀ {l : List (V × D)}, (∀ p ∈ l, RD A K M H p.2 p.1) → RDs A K M H (l.map (·.2)) (l.map (·.1))
  | [], _ => .nil
  | p :: l, h => .cons (h p List.mem_cons_self) (rds_pairs fun q hq => h q (List.mem_cons_of_mem _ hq))
section
variable {P : Pg} {rc : Nat → List D → Sto → O R} {A : Adr} {W : WX} {X : Cx} {pos : Pos} {a b tg : Expr} {ca cb : E}
theorem se_srtk {f : Nat} {y : Str} {p p2 p3 : Pos} (hf : ∀ fd, P.fn f = some fd → isFst fd = true → KeyF X.prog X.w X.A.in1.in1 X.K (A.fn f)) (hu : X.A.units + 65 < cLine) (ha : PE X a (tE P rc A X.K W ca)) (hg : Gl X "sorted") (hm : X.mg "sorted" = none) (gy : Gl X y) (my : X.mg y = some (.ref (A.fn f))) (hy : (y == ("__debug__" : Str)) = false)
    (hst : starEach [a] X.env = (false, eval a X.env) :: starEach [] X.env) : PE X (.Call (.Name "sorted" p) [a] [⟨some "key", .Name y p2, p3⟩] pos) (tE P rc A X.K W (.srtk f ca)) := by
  by_cases hF : ∃ fd, P.fn f = some fd ∧ isFst fd = true
  · obtain ⟨fd, e1, e2⟩ := hF
    refine (pe_srtKey (hf fd e1 e2) hu ha hg hm gy my hy hst).imp fun σ H Q ⟨Φ, ρ, S, M, x, h⟩ => ⟨Φ, ρ, S, M, x, ?_⟩
    simp only [evE, e1, if_pos e2] at h
    refine Post.bind h fun r1 S1 v H1 M1 s1 x1 rx h1 => ?_
    obtain ⟨r, e, q⟩ := Post.of (Post.rbR h1 s1)
    unfold srtkR at e
    cases el : lsOf S1 r1 with
    | none => rw [el] at e; cases e
    | some ds =>
      rw [el] at e
      obtain ⟨pp, ys, rfl, hq, r2⟩ := ls_ok x1.hr rx el
      have e : (if (ds.all fun d => (fstD d).isSome) = true then some (R.l (ds.mergeSort fun a b => decide ((fstD a).getD 0 ≤ (fstD b).getD 0))) else none) = some r := e
      split at e
      · next hall =>
        cases e
        obtain ⟨l, e3, e4, hl⟩ := fst_pairs r2 hall
        refine ⟨pp, l.map fun z => (z.1, (fstD z.2).getD 0), rfl, rfl, ?_, fun b hb => ?_, fun q0 n => ?_⟩
        · rw [List.map_map]
          have : ((fun z : V × Int => z.1) ∘ fun z : V × D => (z.1, (fstD z.2).getD 0)) = fun z => z.1 := rfl
          rw [this, ← e3]
          exact hq
        · obtain ⟨z, hz, rfl⟩ := List.mem_map.mp hb
          exact (hl z hz).2
        · have m1 : ((l.map fun z => (z.1, (fstD z.2).getD 0)).mergeSort fun x y : V × Int => decide (x.2 ≤ y.2)) = (l.mergeSort fun x y => decide ((fstD x.2).getD 0 ≤ (fstD y.2).getD 0)).map fun z => (z.1, (fstD z.2).getD 0) :=
            (List.map_mergeSort (f := fun z : V × D => (z.1, (fstD z.2).getD 0)) (r := fun x y => decide ((fstD x.2).getD 0 ≤ (fstD y.2).getD 0)) (s := fun x y => decide (x.2 ≤ y.2)) (fun _ _ _ _ => rfl)).symm
          have m2 : (ds.mergeSort fun a b => decide ((fstD a).getD 0 ≤ (fstD b).getD 0)) = (l.mergeSort fun x y => decide ((fstD x.2).getD 0 ≤ (fstD y.2).getD 0)).map (·.2) := by
            rw [e4]
            exact (List.map_mergeSort (f := fun z : V × D => z.2) (r := fun x y => decide ((fstD x.2).getD 0 ≤ (fstD y.2).getD 0)) (s := fun a b => decide ((fstD a).getD 0 ≤ (fstD b).getD 0)) (fun _ _ _ _ => rfl)).symm
          rw [m1, List.map_map]
          rw [m2] at q
          have r3 : RDs (A.w Φ) X.K M1 H1 ((l.mergeSort fun x y => decide ((fstD x.2).getD 0 ≤ (fstD y.2).getD 0)).map (·.2)) ((l.mergeSort fun x y => decide ((fstD x.2).getD 0 ≤ (fstD y.2).getD 0)).map (·.1)) :=
            rds_pairs fun z hz => (hl z ((List.mergeSort_perm _ _).mem_iff.mp hz)).1
          exact new_l x1 r3 q n
      · cases e
  · refine ⟨fun pins s σ H Q I h => ?_⟩
    obtain ⟨Φ, ρ, S, M, x, h⟩ := h
    exfalso
    simp only [evE] at h
    cases e1 : P.fn f with
    | none => rw [e1] at h; exact h.elim
    | some fd =>
      rw [e1] at h
      have e2 : ¬ isFst fd = true := fun z => hF ⟨fd, e1, z⟩
      simp only [if_neg e2] at h
      exact h.elim
theorem si_rgd {p p2 p3 : Pos} {k : Nat} (hg : Gl X "range") (hm : X.mg "range" = none) (ha : PE X a (tE P rc A X.K W ca)) (hb : PE X b (tE P rc A X.K W cb)) (hs : starEach [a, b, .UnaryOp .USub (.Constant (.int 1) k p2) p3] X.env = (false, eval a X.env) :: starEach [b, .UnaryOp .USub (.Constant (.int 1) k p2) p3] X.env) (hs2 : starEach [b, .UnaryOp .USub (.Constant (.int 1) k p2) p3] X.env = (false, eval b X.env) :: starEach [.UnaryOp .USub (.Constant (.int 1) k p2) p3] X.env) :
    PI X tg (.Call (.Name "range" p) [a, b, .UnaryOp .USub (.Constant (.int 1) k p2) p3] [] pos) (tIt P rc A X.K W (.rgd ca cb)) := by
  refine (pi_range3 hg hm (pa_cons ha (pa_cons hb (pa_cons (pe_un un_neg pe_int) pa_nil rfl) hs2) hs) hs (by rw [hs2]; rfl)).imp fun σ H Q ⟨Φ, ρ, S, M, x, h⟩ => ⟨Φ, ρ, S, M, x, ?_⟩
  refine Post.bind h fun r S1 v H1 M1 s1 x1 rx h1 => ⟨Φ, ρ, S1, M1, x1, ?_⟩
  refine Post.bind2 s1 h1 fun r2 S2 u H2 M2 s2 x2 ry h2 => ?_
  cases e : intR r with
  | none => rw [e] at h2; exact h2.elim
  | some i =>
    cases e2 : intR r2 with
    | none => rw [e, e2] at h2; exact h2.elim
    | some j =>
      rw [e, e2] at h2
      by_cases hj : -(2 ^ 62) ≤ i ∧ i < 2 ^ 62 ∧ -(2 ^ 62) ≤ j ∧ j < 2 ^ 62
      · simp only [if_pos hj] at h2
        exact ⟨1, rfl, i, j, -1, _, by rw [intR_ok e rx, intR_ok e2 ry], RgC.neg hj.1 hj.2.1 hj.2.2.1 hj.2.2.2, h2 _ H2 M2 (s1.trans s2) x2 ⟨_, serve_rgc, trivial, fun _ _ _ _ => trivial⟩⟩
      · simp only [if_neg hj] at h2
        exact h2.elim
end
end Pl
/-! A list comprehension whose element is a def's call that may raise. -/
namespace Pl
open PySem PySem.Spec
open PyProof.Rows hiding St
open L2
section
variable {Mo : Model} {Ar : Around} {Er : Value → Shared → Prop} {t : Shared} {gd : Heap} {fr : List Env} {ea lo : Addr} {Zp : Obj → Prop} {ce : Env} {nm : Str → Option Value}
/-- a block's own dict is no record of a flight -/
theorem ns_ne {hp : Heap} {bl x : Addr} {ob : Obj} {us : Array Value} (n : hp.Ns bl nm) (e : hp.get? x = some ob) (dd : ob.data = .fields us) : x ≠ bl := fun z => by
  obtain ⟨oc, _, _, hc, dc, _⟩ := n
  subst z
  rw [e] at hc
  cases hc
  rw [dd] at dc
  cases dc
theorem cf_of (hf : ce.frame = some lo) (nb : gd.get? ce.locals = none) (n : t.heap.Ns ce.locals nm) (held : HandSPX.HeldZ gd fr ea Zp lo t.heap)
    (go : ∀ h2, HandSPX.HeldZ gd fr ea Zp lo h2 → (∀ b u, t.heap.get? b = some u → b ≠ ce.locals → (∀ us, u.data ≠ .fields us) → ∃ sl, h2.get? b = some { u with slots := sl }) → Er (.ref ea) { t with heap := h2 }) :
    CompFails Mo Ar Er ce (.ref ea) t := by
  refine ⟨nm, n, fun h1 nm1 n1 sb => ?_⟩
  have held1 : HandSPX.HeldZ gd fr ea Zp lo h1 := by
    obtain ⟨c1, c0, cf, ob, us, tb, ot, ts, g1, g2, g3, g4, g5, g6, g7, g8, g9⟩ := held
    exact ⟨fun b u e => (sb.2 b fun q => by
      rw [q, nb] at e
      cases e).trans (c1 b u e), c0, Heap.FunFrames.sameBut sb n1 cf, ob, us, tb, ot, ts, (sb.2 ea (ns_ne n g1 g3)).trans g1, g2, g3, g4, g5, g6, (sb.2 tb (ns_ne n g7 g8)).trans g7, g8, g9⟩
  obtain ⟨ob, us, tb, ot, ts, g1, g2, g3, g4, _⟩ := id held1.2.2.2
  unfold PySem.passOn
  refine wpAny_bind (wpAny_field g1 g3 g4 ?_)
  rw [if_neg (by simp), hf]
  exact wpAny_bind (HandSPX.setFlight_onZ held1 fun h2 held2 up => wpAny_throw (go h2 held2 fun b u e nc nf => up b u ((sb.2 b nc).trans e) nf))
end
section
variable {X : Cx} {W : WX} {σ σ8 : L2.St} {H3 H : Hp} {s3 sc t : Shared} {scope : Scope} {ce : Env} {fp : List Addr} {pins pn8 : List (Addr × Obj)} {xe : Value → Shared → Prop} {u : Value}
/-- what a call in the block lets out is in the def's own air -/
theorem blk_out (tk : Takes X W) (hst : X.stack = X.env :: X.outer) (hf : X.env.frame = some X.env.locals) (cf : ce.frame = X.env.frame) (I3 : Inv X pins σ H3 s3) (cL : s3.heap.objs.size ≤ ce.locals) (hfp : ∀ b ∈ fp, FpOk X pins H3 b)
    (I : Inv ((X.blk s3 H3 scope ce fp).tr [] xe) pn8 σ8 H sc) (c : L2.CX X.prog X.w X.stack H sc (WE W σ) u t) : notedBy (model X.prog X.w) X.A ce (CompFails (model X.prog X.w) X.A X.xe ce) u t := by
  obtain ⟨ea, gd, H', cls, d, rfl, fl, hok, ub, na, os, ag, w⟩ := c
  have nC : H ce.locals = none := I.free
  obtain ⟨nm, ⟨oc, es, ep, eC, dC, rC⟩, _⟩ := I.loc
  have eC : sc.heap.get? ce.locals = some oc := eC
  have young : ∀ b o, s3.heap.get? b = some o → b ≠ ce.locals := fun b o e z => Nat.lt_irrefl _ (Nat.lt_of_lt_of_le (z ▸ Heap.lt_size e) cL)
  have nfr : ce.locals ∉ frs X.stack := fun z => by
    obtain ⟨_, o, e, _⟩ := I3.stack.mem z
    exact young _ o e rfl
  have eB := ub.keep _ oc eC nC nfr
  have n1 : t.heap.Ns ce.locals nm := ⟨oc, es, ep, fl.1 _ oc eB, dC, rC⟩
  have down : ∀ b o, (PySem.W.hideAll gd [ce.locals]).get? b = some o → gd.get? b = some o := fun b o e => PySem.W.of_hideAll _ e
  have kept : ∀ b o, gd.get? b = some o → b ≠ ce.locals → (PySem.W.hideAll gd [ce.locals]).get? b = some o := fun b o e ne => PySem.W.hideAll_get _ e fun hm => ne (by simpa using hm)
  have gone : (PySem.W.hideAll gd [ce.locals]).get? ce.locals = none := PySem.W.hideAll_none _ (by simp)
  generalize PySem.W.hideAll gd [ce.locals] = g1 at down kept gone
  have nn : ∀ {b}, gd.get? b = none → g1.get? b = none := fun {b} e => by
    cases q : g1.get? b with
    | none => rfl
    | some o =>
      rw [down b o q] at e
      cases e
  have fl1 : HandSPX.FlyingZ g1 (X.env :: X.outer) ea (Zc cls d) t.heap := by
    rw [← hst]
    obtain ⟨c1, c0, cf, ob, us, tb, ot, ts, k1, k2, k3, k4, k5, k6, k7, k8, k9⟩ := fl
    exact ⟨fun b o e => c1 b o (down b o e), nn c0, funFrames_none cf fun b hb => nn (cf.mem hb).1, ob, us, tb, ot, ts, k1, k2, k3, k4, nn k5, k6, k7, k8, k9⟩
  have hfr : X.A.frames = some (X.env :: X.outer) := by rw [I3.ok.frames, hst]
  show wpAny (model X.prog X.w) X.A (noteFrame (.ref ea) ce) _ _ t
  rw [noteFrame_env _ cf]
  refine HandSPX.looks_onZ Zc.steady hfr hf fl1 fun h1 held1 up1 => cf_of (lo := X.env.locals) (cf.trans hf) gone (n1.upToSlots up1) held1 fun h2 held2 up2 => tk _ _ ?_
  obtain ⟨G, q1, q2⟩ := restrict h2 fun b => (g1.get? b).isSome || decide (b ∈ frs X.stack)
  have st2 : g1.StaysIn h2 := held2.1
  have gB : ∀ b o, g1.get? b = some o → G.get? b = some o := fun b o e => (q1 b (by simp [e])).trans (st2 b o e)
  have gF : ∀ b, b ∈ frs X.stack → G.get? b = h2.get? b := fun b hb => q1 b (by simp [hb])
  have og : ∀ b o, G.get? b = some o → h2.get? b = some o ∧ ((g1.get? b).isSome = true ∨ b ∈ frs X.stack) := fun b o e => by
    cases q : ((g1.get? b).isSome || decide (b ∈ frs X.stack)) with
    | false =>
      rw [q2 b q] at e
      cases e
    | true =>
      rw [q1 b q] at e
      exact ⟨e, by simpa [Bool.or_eq_true] using q⟩
  have base : Un (frs X.stack) fp H3 H s3.heap sc.heap := I.base
  have slot : ∀ b o, s3.heap.get? b = some o → b ∈ frs X.stack → b ∉ fp → ∃ sl, G.get? b = some { o with slots := sl } := fun b o e hb hx => by
    obtain ⟨_, o1, e1, nd⟩ := I3.stack.mem hb
    rw [e] at e1
    cases e1
    obtain ⟨_, e2⟩ := base.slot b o e (I3.stkFree b hb) hb hx
    obtain ⟨_, e3⟩ := ub.slot b _ e2 hb
    obtain ⟨_, e4⟩ := up1 b _ e3 nd
    obtain ⟨sl, e5⟩ := up2 b _ e4 (young b o e) nd
    exact ⟨sl, (gF b hb).trans e5⟩
  refine ⟨ea, g1, { sc with heap := G, gens := t.gens, drawn := t.drawn, toks := t.toks }, pins, σ, H', cls, d, rfl, I3.call' (ch := fp) I.os ⟨fun b o e n hb hx => ?_, fun b o e _ hb hx => slot b o e hb hx, fun b o e n hx => ?_, fun b o e hx => ?_, fun b xs q => ub.tups b xs (base.tups b xs q), fun b o xs q => ub.frzs b o xs (base.frzs b o xs q), fun b ps q => ?_⟩ (fun b o q => ?_) ag (fun b hb => ?_), fun b o e hb => ?_, Heap.UpToSlots.of_keeps fun b o e => (og b o e).1, .inr (.inr ?_), na, os, ag, w⟩
  · exact gB b o (kept b o (ub.keep b o (base.keep b o e n hb hx) (base.free b o e n hx) hb) (young b o e))
  · obtain ⟨o1, e1⟩ := base.there b o e hx
    exact ub.free b o1 e1 (base.free b o e n hx)
  · by_cases hb : b ∈ frs X.stack
    · obtain ⟨sl, e1⟩ := slot b o e hb hx
      exact ⟨_, e1⟩
    · obtain ⟨o1, e1⟩ := base.there b o e hx
      obtain ⟨o2, e2⟩ := ub.there b o1 e1 hb
      exact ⟨o2, gB b o2 (kept b o2 e2 (young b o e))⟩
  · obtain ⟨m1, e1⟩ := base.tbls b ps q
    obtain ⟨m2, e2⟩ := ub.tbls b _ e1
    exact ⟨m1 ++ m2, by rw [e2, Array.append_assoc]⟩
  · have nC' : H' ce.locals = none := ub.free _ oc eC nC
    refine ((hok b o q).stay (h' := g1) (fun x v hc r => kept x v r fun z => ?_) (fun _ r => r) fun _ _ r => r).stay (fun x v _ r => gB x v r) (fun _ r => r) fun _ _ r => r
    rcases hc with hc | hc
    · rw [← hc, z, nC'] at q
      cases q
    · rw [z, nC'] at hc
      cases hc
  · obtain ⟨_, f1, _, f3, f4, f5⟩ := hfp b hb
    exact ⟨f3, f1, f4, f5⟩
  · obtain ⟨e1, k⟩ := og b o e
    rcases k with k | k
    · obtain ⟨o1, q⟩ := Option.isSome_iff_exists.mp k
      have z := st2 b o1 q
      rw [e1] at z
      cases z
      exact q
    · exact absurd k hb
  · rw [hst]
    exact held2
end
section
variable {X : Cx}
theorem Inv.xeIn {Y : Cx} {xe : Value → Shared → Prop} {pins : List (Addr × Obj)} {σ : L2.St} {H : Hp} {s : Shared} (hp : Y.pn = []) (I : Inv Y pins σ H s) : Inv (Y.tr [] xe) pins σ H s :=
  ⟨I.ok.toTry _ _, I.os, I.bare, I.base, I.loc, I.cell, I.free, I.freeC, fun p m => I.pin p (by rw [hp]; exact m), I.hok, I.len⟩
theorem Inv.xeOut {Y : Cx} {xe : Value → Shared → Prop} {pins : List (Addr × Obj)} {σ : L2.St} {H : Hp} {s : Shared} (hp : Y.pn = []) (I : Inv (Y.tr [] xe) pins σ H s) : Inv Y pins σ H s :=
  ⟨I.ok.ofTry, I.os, I.bare, I.base, I.loc, I.cell, I.free, I.freeC, fun p m => I.pin p (by rw [hp] at m; exact m), I.hok, I.len⟩
/-- D the list, Wt the turns, what a turn is to reach; the element knows the slots at the start -/
def tLcx (wi : TI) (g : TG) (te : L2.St → TE) (vs : List Nat) : TE := fun σ H Q => wi σ H fun J H1 => ∀ D, H1 D = none → ∃ Wt : Nat → Nat → Hp → Prop, (∃ m, Wt 0 m (upd H1 D (.lst []))) ∧ ∀ i m H2, Wt i m H2 →
  (J.stop i H2 ∧ Q (.ref D) H2) ∨ (J.go i H2 ∧ ∃ Nx : Hp → Prop, (∀ H', Nx H' → ∃ m', m' < m ∧ Wt (i + 1) m' H') ∧
    ∀ x H3, J.yld i H2 x H3 → g x (wipe σ vs) H3 fun σ4 H4 => wipe σ4 vs = wipe σ vs ∧ te σ σ4 H4 fun y H5 => ∃ acc, H5 D = some (.lst acc) ∧ acc.length < sizeLine ∧ Nx (upd H5 D (.lst (acc ++ [y]))))
theorem pe_lcx {W : WX} {elt tg iter : Expr} {scope : Scope} {own : List (Str × Nat)} {pos : Pos} {wi : TI} {g : TG} {te : L2.St → TE} (tk : Takes X W) (hk : ∀ c d σ H, W c d σ H → X.stack = X.env :: X.outer ∧ X.env.frame = some X.env.locals) (hc : X.calm = true) (hN : X.N.Nodup) (hi : PI X tg iter wi)
    (ok : BlkOk X.N X.env.scope scope own) (hg : ∀ s H C cl fp, PG (X.blk s H scope (compEnvC scope cl C X.env) fp) tg g)
    (he : ∀ σ s H C cl fp xe, (∀ σ', PassesAt (L2.CX X.prog X.w) ((X.blk s H scope (compEnvC scope cl C X.env) fp).tr [] xe) σ' (WE W σ)) → PE ((X.blk s H scope (compEnvC scope cl C X.env) fp).tr [] xe) elt (te σ)) (hs : ∀ x, foldedSetIterable iter X.env x = pure x) :
    PE X (.ListComp elt [⟨tg, iter, [], 0⟩] scope pos) (tLcx wi g te (own.map (·.2))) := by
  refine ⟨fun pins s σ H Q I h => ?_⟩
  have cells : ∀ y ∈ scope.names, y.2 = .free → ∃ c, X.env.cells.lookup y.1 = some c := fun y hy e => I.ok.has _ ((ok.free y hy e).imp id id)
  rw [eval_ListComp]
  refine comprehension_at (use := none) rfl hs (closure_ok cells) ok.kind (fun y hy e => (ok.uniq y hy).trans (congrArg some e)) (thn (hi.run pins s σ H _ I h) fun xv s1 hx => thn hx fun itv s2 h2 => ?_)
  obtain ⟨it, fp, tn, J, H2, rfl, I2, T, st2, f2, q⟩ := h2
  refine wpAny_newObj_type (newEnv_comp ?_) (Nat.zero_le sizeLine)
  have old2 : ∀ b ∈ fp, b < s2.heap.objs.size := fun b hb => (T.obj _ _ st2 b hb).elim fun o e => Heap.lt_size e.1
  obtain ⟨Wt, ⟨m0, w0⟩, turn⟩ := q s2.heap.objs.size (I2.hok.fresh (Nat.le_refl _))
  have I3 : Inv X pins σ (upd H2 s2.heap.objs.size (.lst [])) { s2 with heap := s2.heap.push { cls := .type "list", data := .seq ([] : List Value).toArray } } :=
    I2.laid (t' := s2.toks) (fun b o e => Heap.get?_push_of_some _ e) (Nat.le_refl _) ⟨Nat.zero_le _, [], 0, .nil, Heap.get?_push_size _ rfl⟩
  have st3 : tn 0 (s2.heap.push { cls := .type "list", data := .seq ([] : List Value).toArray }) := T.keep _ _ _ st2 fun b _ o e => Heap.get?_push_of_some _ e
  have f3 : ∀ b ∈ fp, FpOk X pins (upd H2 s2.heap.objs.size (.lst [])) b ∧ b < (s2.heap.push { cls := .type "list", data := .seq ([] : List Value).toArray }).objs.size := fun b hb =>
    ⟨⟨(upd_ne (Nat.ne_of_lt (old2 b hb))).trans (f2 b hb).1, (f2 b hb).2⟩, (Heap.size_push ..).symm ▸ Nat.lt_succ_of_lt (old2 b hb)⟩
  generalize s2.heap.objs.size = D at turn w0 I3 f3 ⊢
  generalize hs3 : ({ s2 with heap := s2.heap.push { cls := .type "list", data := .seq ([] : List Value).toArray } } : Shared) = s3 at I3
  have h3 : s2.heap.push { cls := .type "list", data := .seq ([] : List Value).toArray } = s3.heap := congrArg Shared.heap hs3
  rw [h3] at st3 f3
  generalize upd H2 D (.lst []) = H3 at w0 I3 f3
  have I4 := block_start I3 ok hN f3
  have pg := hg s3 H3 s3.heap.objs.size (cellsFrom (s3.heap.objs.size + 1) scope.names (cloFrom X.env.cells scope.names [])) fp
  have pe := he σ s3 H3 s3.heap.objs.size (cellsFrom (s3.heap.objs.size + 1) scope.names (cloFrom X.env.cells scope.names [])) fp
  have goal : ∀ ce : Env, ce = compEnvC scope (cellsFrom (s3.heap.objs.size + 1) scope.names (cloFrom X.env.cells scope.names [])) s3.heap.objs.size X.env →
      codeAny (model X.prog X.w) X.A (.compStart (.ListComp elt [⟨tg, iter, [], 0⟩] scope pos) 0 (.ref it) (.ref D) ce) (compEnds (model X.prog X.w) X.A X.xe none (EP X pins σ Q) (.ref D) ce) { s3 with heap := pushCells (s3.heap.push { cls := .type "dict", data := .dict #[] }) scope.names } := by
    rintro ce rfl
    generalize hce : compEnvC scope (cellsFrom (s3.heap.objs.size + 1) scope.names (cloFrom X.env.cells scope.names [])) s3.heap.objs.size X.env = ce at I4 pg pe ⊢
    have cL : ce.locals = s3.heap.objs.size := by rw [← hce]; rfl
    have cF : ce.frame = X.env.frame := by rw [← hce]; rfl
    generalize hs4 : ({ s3 with heap := pushCells (s3.heap.push { cls := .type "dict", data := .dict #[] }) scope.names } : Shared) = s4 at I4 ⊢
    have st4 : tn 0 s4.heap := by
      rw [← hs4]
      exact T.keep _ _ _ st3 fun b _ o e => pushCells_keeps _ _ _ _ (Heap.get?_push_of_some _ e)
    have pe := pe (notedBy (model X.prog X.w) X.A ce (CompFails (model X.prog X.w) X.A X.xe ce)) fun σ' pn8 H8 s8 u t I8 c8 => (let ⟨_, _, _, _, _, _, _, _, _, _, _, _, w8⟩ := c8; blk_out tk (hk _ _ _ _ w8).1 (hk _ _ _ _ w8).2 cF I3 (Nat.le_of_eq cL.symm) (fun b hb => (f3 b hb).1) I8 c8)
    have stat : ∀ {σ' : L2.St} {H' : Hp} {s' : Shared}, Inv (X.blk s3 H3 scope ce fp) [] σ' H' s' → (∀ b ∈ fp, H' b = none) → ∀ b ∈ fp, FpOk (X.blk s3 H3 scope ce fp) [] H' b := fun I' hn b hb =>
      ⟨hn b hb, (I'.ok.exf b hb).1, I'.ok.exfs b hb, .inl hb, fun x c e => (I'.ok.exf b hb).2 x c e, fun p hp => nomatch hp⟩
    have loop : codeAny (model X.prog X.w) X.A (.compLoop (.ListComp elt [⟨tg, iter, [], 0⟩] scope pos) 0 (.ref it) (.ref D) ce) (compEnds (model X.prog X.w) X.A X.xe none (EP X pins σ Q) (.ref D) ce) s4 := by
      refine compLoop_any (fun n s' => ∃ i H', Inv (X.blk s3 H3 scope ce fp) [] (wipe σ (own.map (·.2))) H' s' ∧ tn i s'.heap ∧ (∀ b ∈ fp, H' b = none) ∧ Wt i n H') ?_ m0 ⟨0, H3, I4, st4, fun b hb => (f3 b hb).1.1, w0⟩
      rintro n s5 ⟨i, H5, I5, st5, n5, w5⟩
      rcases turn i n H5 w5 with ⟨stop, qq⟩ | ⟨go, Nx, hNx, step⟩
      · refine thnF (T.done (X.blk s3 H3 scope ce fp) rfl rfl rfl hc i [] s5 _ H5 (fun _ _ => False) I5 (stat I5 n5) st5 stop) fun r s6 ⟨hr, I6⟩ => ?_
        subst hr
        have nC : H5 ce.locals = none := I6.free
        obtain ⟨mm, hn, _⟩ := I6.loc
        have I7 : Inv X pins σ H5 s6 := I3.call' (ch := fp) I6.os I6.base I6.hok I6.bare fun b hb => (f3 b hb).1.2.2.2.1 |> fun z => ⟨z, (f3 b hb).1.2.1, (f3 b hb).1.2.2.2.2.1, (f3 b hb).1.2.2.2.2.2⟩
        obtain ⟨c0, c1, _, c3, c4, c5⟩ := I3.fpOk (Nat.le_refl _) (cL ▸ nC)
        refine ⟨mm, hn, fun h9 sb => ⟨.ref D, H5, I7.turned (t' := s6.toks) (fun b o hb e => (sb.2 b (cL.symm ▸ hb)).trans e) c0 c1 c3 c4 c5, rfl, qq⟩⟩
      · refine thnF (T.item (X.blk s3 H3 scope ce fp) rfl rfl rfl hc i [] s5 _ H5 (fun _ _ => False) I5 (stat I5 n5) st5 go) fun r s6 ⟨u, hr, h6⟩ => ?_
        subst hr
        refine thnF h6 fun _ s7 ⟨x, H7, I7, r7, y7, st7, n7⟩ => ?_
        refine thnF (pg.run _ s7 _ H7 x u _ (I7.pinned (stat I7 n7) (T.obj _ _ st7)) r7 (step x H7 y7)) fun _ s8 ⟨σ8, H8, I8, hw8, q8⟩ => wpAny_tests_nil ?_
        rw [if_pos rfl]
        refine thn (pe.run _ s8 σ8 H8 _ (Inv.xeIn rfl I8) q8) fun z s9 ⟨y, H9, I9, r9, acc, d9, z9, nx⟩ => app_ok (X := X.blk s3 H3 scope ce fp) (Inv.xeOut rfl I9) d9 z9 r9 fun s' I' => ?_
        obtain ⟨m', hm, w'⟩ := hNx _ nx
        have pin' : ∀ b ∈ fp, ∀ o, s7.heap.get? b = some o → s'.heap.get? b = some o ∧ (upd H9 D (.lst (acc ++ [y]))) b = none := fun b hb o e =>
          ⟨(I'.pin (b, o) (List.mem_append_right _ (List.mem_append_right _ (mem_pinsAt hb e)))).1, (I'.pin (b, o) (List.mem_append_right _ (List.mem_append_right _ (mem_pinsAt hb e)))).2.1⟩
        refine ⟨m', hm, i + 1, _, (I'.unpinned (pins := [])).weak (by rw [← hw8, wipe_length]) (fun j v e => (wipe_some (hw8 ▸ e)).1), T.keep _ _ _ st7 fun b hb o e => (pin' b hb o e).1, fun b hb => ?_, w'⟩
        obtain ⟨o, e, _⟩ := T.obj _ _ st7 b hb
        exact (pin' b hb o e).2
    exact codeAny_compStart_list loop (T.self X.A 0 _ _ _ st4 loop)
  subst hs3
  exact goal _ rfl
end
section
variable {P : Pg} {rc : Nat → List D → Sto → O R} {A : Adr} {K : PySem.W.Frag} {W : WX}
theorem lcx_gen {ce : E} {g : G} {own : List Nat} {cit : It} {σ : L2.St} {ρ : Loc} {S : Sto} {M Φ : List Addr} {H : Hp} {Q : V → Hp → Prop} (hw : ∀ i ∈ g.ix, i ∈ own) (x : At (A.w Φ) K σ H ρ S M)
    (h : Post (A.w Φ) K W (RRl (A.w Φ) K) σ ρ M H ((evIt P rc cit ρ S).bind fun sr S => (lcxL sr.keep (fun d S => match setG S g (.v d) (wipeL ρ own) with
      | some r' => valO (evE P rc ce r' S)
      | none => .no) sr.items [] S).bind fun ds S => .ok (.l ds) S) Q) : tLcx (tIt P rc A K W cit) (tG K g) (fun σ0 => tE P rc A K (fun c d _ H => W c d σ0 H) ce) own σ H Q := by
  refine ⟨Φ, ρ, S, M, x, Post.bind h fun sr S1 J H1 M1 s1 x1 ⟨Ps, sv, hp, _⟩ h1 => ?_⟩
  have h1 := Post.rbR h1 s1
  intro L hL
  generalize hl : lcxL sr.keep _ sr.items [] S1 = o at h1
  have nL : L ∉ M1 := x1.nin hL
  have mL : L ∈ (A.w (L :: Φ)).F := List.mem_cons_self
  have sub : ∀ a ∈ Φ, a ∈ (A.w (L :: Φ)).F := fun a h => List.mem_cons_of_mem _ h
  have out : ∀ {H' : Hp} {S' : Sto} {M' : List Addr}, At (A.w (L :: Φ)) K σ H' ρ S' M' → At (A.w Φ) K σ H' ρ S' M' := fun y => ⟨HR.free (A := A.w (L :: Φ)) y.hr, SR.sub (A := A.w (L :: Φ)) sub y.sr, fun a m => y.ff a (sub a m)⟩
  have hp : Ps (L :: Φ) M1 H1 := sv.keep _ _ _ _ _ _ hp ⟨⟨[], by simp, fun _ h => by simp at h⟩, fun a o h _ n => ⟨h, fun z => (List.mem_cons.mp z).elim (fun e => by
    subst e
    rw [hL] at h; cases h) n⟩, fun _ h => h, fun _ _ h => h, fun _ _ _ h => h⟩
  have a0 : At (A.w (L :: Φ)) K σ (upd H1 L (.lst [])) ρ S1 M1 := ⟨HR.free (A := A.w Φ) (x1.hr.new hL), (SR.addF (A := A.w Φ) hL x1.sr).mono (.new hL), fun a m => by
    by_cases e : a = L
    · exact ⟨_, by rw [e]; exact upd_same⟩
    · rw [upd_ne e]
      exact x1.ff a ((List.mem_cons.mp m).resolve_left e)⟩
  refine ⟨fun i m H => m = sr.items.length - i ∧ i ≤ sr.items.length ∧ ∃ S M acc ws, At (A.w (L :: Φ)) K σ H ρ S M ∧ Stp K M1 H1 M H ∧ H L = some (.lst ws) ∧ L ∉ M ∧ RDs (A.w (L :: Φ)) K M H acc ws ∧
    lcxL sr.keep (fun d S => match setG S g (.v d) (wipeL ρ own) with
      | some r' => valO (evE P rc ce r' S)
      | none => .no) (sr.items.drop i) acc S = o, ⟨_, rfl, Nat.zero_le _, S1, M1, [], [], a0, .new hL, upd_same, nL, .nil, hl⟩, ?_⟩
  rintro i m H2 ⟨rfl, hi, S2, M2, acc, ws, x2, s2, e2, n2, r2, l2⟩
  have hp2 := sv.keep _ _ _ _ _ _ hp ⟨s2.ext, fun a o h m n => ⟨s2.keep a o h m, n⟩, s2.grow, s2.tup, s2.frz⟩
  by_cases hlt : i < sr.items.length
  · rw [List.drop_eq_getElem_cons hlt] at l2
    unfold lcxL at l2
    split at l2
    · next hk =>
      obtain ⟨hgo, hy⟩ := sv.go _ i sr.items[i] S2 M2 H2 x2.hr hp2 hk (List.getElem?_eq_getElem hlt)
      refine .inr ⟨hgo, fun H' => ∃ S M acc ws, At (A.w (L :: Φ)) K σ H' ρ S M ∧ Stp K M1 H1 M H' ∧ H' L = some (.lst ws) ∧ L ∉ M ∧ RDs (A.w (L :: Φ)) K M H' acc ws ∧ lcxL sr.keep (fun d S => match setG S g (.v d) (wipeL ρ own) with
          | some r' => valO (evE P rc ce r' S)
          | none => .no) (sr.items.drop (i + 1)) acc S = o, fun H' p' => ⟨_, by omega, rfl, by omega, p'⟩, fun xv H3 yl => ?_⟩
      obtain ⟨s3, hr3, rd⟩ := hy xv H3 yl
      have x3 : At (A.w (L :: Φ)) K σ H3 ρ S2 M2 := x2.mono s3 hr3
      cases eg : setG S2 g (.v sr.items[i]) (wipeL ρ own) with
      | none =>
        simp only [eg] at l2
        rw [← l2] at h1
        exact h1.elim
      | some ρ4 =>
        simp only [eg] at l2
        refine setG_ok (A := A.w (L :: Φ)) (M := M2) (S := S2) (ws := own) ⟨x3.hr, x3.sr.wipe, x3.ff⟩ eg (show RR (A.w (L :: Φ)) K M2 H3 H2 (.v sr.items[i]) xv from rd) hw fun σ4 x4 w4 => ⟨by rw [w4, wipe_twice], ?_⟩
        refine ⟨L :: Φ, ρ4, S2, M2, x4, ?_⟩
        cases eo : evE P rc ce ρ4 S2 with
        | no =>
          simp only [eo, valO, O.bind] at l2
          rw [← l2] at h1
          exact h1.elim
        | ex k S3 =>
          simp only [eo, valO, O.bind] at l2
          rw [← l2] at h1
          intro H5 M5 s5 x5
          have s6 := s3.trans s5
          exact h1 H5 M5 (s2.trans s6) (out (x2.mono s6 x5.hr))
        | ok r S3 =>
          intro y H5 M5 s5 x5 rr
          cases ed : toD r with
          | none =>
            simp only [eo, valO, O.bind, O.of, ed] at l2
            rw [← l2] at h1
            exact h1.elim
          | some d =>
            simp only [eo, valO, O.bind, O.of, ed] at l2
            split at l2
            · next hz =>
              have r5 := toD_ok ed rr
              have s6 := s3.trans s5
              have e6 := s6.keep _ _ e2 n2
              have n6 := s6.nin e2 n2
              have x6 : At (A.w (L :: Φ)) K σ H5 ρ S3 M5 := x2.mono s6 x5.hr
              exact ⟨ws, e6, by rw [← r2.length]; exact hz, S3, M5, acc ++ [d], ws ++ [y], x6.updD e6 mL n6, Stp.updD e6 hL (s2.trans s6), upd_same, n6, RDs.updD e6 mL ((r2.mono s6).append (.cons r5 .nil)), l2⟩
            · rw [← l2] at h1
              exact h1.elim
    · rw [← l2] at h1
      exact h1.elim
  · have e : i = sr.items.length := by omega
    subst e
    rw [List.drop_length] at l2
    unfold lcxL at l2
    split at l2
    · next hk =>
      rw [← l2] at h1
      exact .inl ⟨sv.stop _ _ M2 H2 x2.hr hp2 hk, h1 _ H2 M2 s2 (out x2) ⟨L, ws, rfl, hL, n2, fun z => x1.nF hL z, e2, r2⟩⟩
    · rw [← l2] at h1
      exact h1.elim
end
section
variable {P : Pg} {rc : Nat → List D → Sto → O R} {A : Adr} {W : WX} {X : Cx} {pos : Pos} {elt tg iter e : Expr} {es : List Expr} {scope : Scope} {own : List (Str × Nat)} {g : G} {cit : It} {ce : E} {ces : Es}
theorem se_lcx (tk : Takes X W) (hk : ∀ c d σ H, W c d σ H → X.stack = X.env :: X.outer ∧ X.env.frame = some X.env.locals) (hc : X.calm = true) (hN : X.N.Nodup) (hi : PI X tg iter (tIt P rc A X.K W cit)) (ok : BlkOk X.N X.env.scope scope own) (hw : ∀ i ∈ g.ix, i ∈ own.map (·.2))
    (hg : ∀ (s : Shared) (H : Hp) (C : Addr) (cl : List (Str × Addr)) (fp : List Addr), PG (X.blk s H scope (compEnvC scope cl C X.env) fp) tg (tG X.K g))
    (he : ∀ σ s H C cl fp xe, (∀ σ', PassesAt (L2.CX X.prog X.w) ((X.blk s H scope (compEnvC scope cl C X.env) fp).tr [] xe) σ' (WE W σ)) → PE ((X.blk s H scope (compEnvC scope cl C X.env) fp).tr [] xe) elt (tE P rc A X.K (fun c d _ H => W c d σ H) ce)) (hs : ∀ x, foldedSetIterable iter X.env x = pure x) :
    PE X (.ListComp elt [⟨tg, iter, [], 0⟩] scope pos) (tE P rc A X.K W (.lcx (own.map (·.2)) g cit ce)) :=
  (pe_lcx tk hk hc hN hi ok hg he hs).imp fun σ H Q ⟨Φ, ρ, S, M, x, h⟩ => lcx_gen hw x (by
    simp only [evE] at h
    exact h)
/-- a call whose errors are taken by name -/
theorem se_callx {k : Nat} {fd : FuncData} {ps : List Str} {f : Nat} {x : Str} {p : Pos} (F : FnOk X.prog X.w X.K X.mg X.base (L2.CX X.prog X.w) k (A.fn f) fd ps (SPf A X.K rc f)) (hr : Room k X.A) (hg : Gl X x) (hm : X.mg x = some (.ref (A.fn f))) (hk : PySem.W.keepIn X.K (.ref (A.fn f)) = true) (hb : Binds X.K fd ps [])
    (hx : ∀ σ, PassesAt (L2.CX X.prog X.w) X σ (WE W σ)) (ha : PA X (e :: es) (tEs P rc A X.K W ces)) (hdb : (x == ("__debug__" : Str)) = false) (he : starEach (e :: es) X.env = (false, eval e X.env) :: starEach es X.env) (hpl : (backTo pos (starEach es X.env)).any (·.1) = false) :
    PE X (.Call (.Name x p) (e :: es) [] pos) (tE P rc A X.K W (.call f ces)) := by
  refine (pe_callS F hr hg hm hk hb hx ha hdb he hpl).imp fun σ H Q ⟨Φ, ρ, S, M, x, h⟩ => ⟨Φ, ρ, S, M, x, ?_⟩
  simp only [evE] at h
  exact Post.bind h fun ds S1 vs H1 M1 s1 x1 rx h1 => sp_ok x1 rx (Post.rbR h1 s1)
end
end Pl
/-! The check that a tree of the row is the compact text's, and what it gives. -/
namespace Pl
open PySem PySem.Spec
open PyProof.Rows hiding St
open L2
/-- the names that a law's text uses -/
structure Tb where
  fn : Nat → Option Str
  cls : Nat → Option Str
  xc : Nat → Option Str
  gv : Str → Bool
  fld : Str → Bool
  mth : Str → Bool
  bw : Bool
  hot : Bool
def dbg (x : Str) : Bool := x == ("__debug__" : Str)
def visB (N : List Str) (sc : Scope) (i : Nat) (x : Str) : Bool :=
  decide (N[i]? = some x) && (decide (sc.names.lookup x = some .local) || decide (sc.names.lookup x = some .cell) || decide (sc.names.lookup x = some .free)) && !dbg x && !(x == ("__classdict__" : Str))
def glB (sc : Scope) (x : Str) : Bool := decide (sc.names.lookup x = some .globalImplicit)
def notStar : Expr → Bool
  | .Starred _ _ => false
  | _ => true
def allNS : List Expr → Bool
  | [] => true
  | e :: es => notStar e && allNS es
def notCall : Expr → Bool
  | .Call (.Name _ _) [] _ _ => false
  | _ => true
def notSlice : Expr → Bool
  | .Slice _ _ _ _ => false
  | _ => true
def notSet : Expr → Bool
  | .Set _ _ _ => false
  | _ => true
def notComp : Expr → Bool
  | .ListComp _ _ _ _ => false
  | .SetComp _ _ _ _ => false
  | .DictComp _ _ _ _ _ => false
  | _ => true
def notTup : Expr → Bool
  | .Tuple _ _ _ => false
  | _ => true
def isBO : Expr → Bool
  | .BoolOp _ _ _ => true
  | _ => false
/-- a test of a plain form -/
def tOk : E → Bool
  | .ite _ _ _ => false
  | .and a b => tOk a && tOk b
  | .or a b => tOk a && tOk b
  | .nt a => tOk a
  | .box _ => false
  | .lck _ _ => false
  | .orv _ _ => false
  | _ => true
def locB (N : List Str) (sc : Scope) (i : Nat) (x : Str) : Bool := decide (N[i]? = some x) && (decide (sc.names.lookup x = some .local) || decide (sc.names.lookup x = some .cell))
def chkNs (N : List Str) (sc : Scope) : List Nat → List Expr → Bool
  | [], [] => true
  | i :: is, .Name x _ :: es => locB N sc i x && chkNs N sc is es
  | _, _ => false
def chkG (N : List Str) (sc : Scope) : G → Expr → Bool
  | .name i, .Name x _ => locB N sc i x
  | .tup is, .Tuple es _ _ => chkNs N sc is es
  | _, _ => false
def chkTn (sc : Scope) : List Tn → List Expr → Bool
  | [], [] => true
  | t :: ts, .Name x _ :: es => decide (x = Str.ofString t.nm) && glB sc x && chkTn sc ts es
  | _, _ => false
def ownP (N : List Str) (own : List Nat) : List (Str × Nat) := own.map fun i => (N.getD i "", i)
def isTup : Expr → Bool
  | .Tuple _ _ _ => true
  | _ => false
def It.isEn : It → Bool
  | .en _ => true | .zp _ _ => true | _ => false
/-- how many arguments a method takes -/
def bmB : Bm → List Expr → Bool
  | .append, [_] => true | .insert, [_, _] => true | .index, [_] => true | .count, [_] => true | .split, [_] => true | .join, [_] => true | .find, [_] => true
  | .pop, [] => true | .clear, [] => true | .get, [_] => true | .popK, [_] => true | .popI, [_] => true | .get2, [_, _] => true | .setd, [_, _] => true
  | _, _ => false
def opB (a b : Operator) : Bool := decide (a = b)
def subB (a b : List Nat) : Bool := a.all fun i => b.contains i
/-- the element of a comprehension that an error may leave: a def's call with the name -/
def chkX (T : Tb) (N : List Str) (sc : Scope) : E → Expr → Bool
  | .call f (.cons (.var i) .nil), .Call (.Name x _) [.Name y _] [] _ => decide (T.fn f = some x) && glB sc x && !dbg x && visB N sc i y
  | _, _ => false
section
variable (T : Tb) (N : List Str)mutual
def chkE (sc : Scope) : E → Expr → Bool
  | .box a, x => chkE sc a x
  | .lck i a, x => chkE sc a x
  | .var i, .Name x p => visB N sc i x
  | .brw i, .Name x p => T.bw && visB N sc i x
  | .int i, .Constant (.int j) q p => decide (i = j)
  | .str i, .Constant (.str j) q p => decide (i = j)
  | .bl i, .Constant (.bool j) q p => decide (i = j)
  | .non, .Constant .none q p => true
  | .gv x, .Name y p => decide (x = y) && glB sc x && !dbg x && T.gv x
  | .bin op a b, .BinOp l o r p => decide (o = op.op) && chkE sc a l && chkE sc b r
  | .neg a, .UnaryOp .USub x p => chkE sc a x
  | .nt a, .UnaryOp .Not x p => chkE sc a x
  | .and a b, .BoolOp .And (x :: (y :: rest)) p => chkE sc a x && (match (generalizing := false) rest with | [] => chkE sc b y | _ :: _ => chkE sc b (.BoolOp .And (y :: rest) p))
  | .or a b, .BoolOp .Or (x :: (y :: rest)) p => chkE sc a x && (match (generalizing := false) rest with | [] => chkE sc b y | _ :: _ => chkE sc b (.BoolOp .Or (y :: rest) p))
  | .orv a b, .BoolOp .Or (x :: (y :: [])) p => chkE sc a x && chkE sc b y
  | .cmp op a b, .Compare l (o :: []) (r :: []) p => decide (o = op.op) && chkE sc a l && chkE sc b r && !behindInMarks op.op r
  | .chain op op' a b c, .Compare l (o :: (o2 :: [])) (r :: (r2 :: [])) p => decide (o = op.op) && decide (o2 = op'.op) && chkE sc a l && chkE sc b r && chkE sc c r2 && !lastMarks [op.op, op'.op] [r, r2]
  | .ite c a b, .IfExp t x y p => tOk c && chkE sc c t && chkE sc a x && chkE sc b y
  | .tup es, .Tuple xs q p => chkEs sc es xs
  | .lst es, .List xs p => chkEs sc es xs
  | .dnT, .Dict [] [] p => true
  | .dsp ks es, .Dict keys vals p => dspB ks keys && decide (keys.length = vals.length) && decide (ks.length ≤ 15) && chkEs sc es vals
  | .call f es, .Call (.Name x q) xs [] p => decide (T.fn f = some x) && glB sc x && !dbg x && chkEs sc es xs && !T.hot
  | .cv i es, .Call (.Name x q) (y :: ys) [] p => visB N sc i x && chkEs sc es (y :: ys) && !T.hot
  | .bi b es, .Call (.Name x q) (y :: ys) [] p => !T.hot && decide (x = b.nm) && glB sc x && chkEs sc es (y :: ys)
  | .isi a ts, .Call (.Name x q) (y :: (z :: [])) [] p => decide (x = "isinstance") && glB sc "isinstance" && notStar y && chkE sc a y && (match (generalizing := false) ts, z with | [t], .Name w _ => decide (w = Str.ofString t.nm) && glB sc w | ts, .Tuple ws _ _ => decide (ts.length ≤ 100) && chkTn sc ts ws | _, _ => false)
  | .bm m o es, .Call (.Attribute y x q) zs [] p => decide (x = m.nm) && notCall y && (q.endLine == p.line) && chkE sc o y && chkEs sc es zs && bmB m zs
  | .fld o f, .Attribute y x p => decide (x = f) && notCall y && T.fld f && chkE sc o y
  | .ix a i, .Subscript x y p => notSlice y && chkE sc a x && chkE sc i y
  | .sl a, .Subscript x (.Slice none none none p2) p => chkE sc a x
  | .slA a lo, .Subscript x (.Slice (some y) none none p2) p => chkE sc a x && chkE sc lo y
  | .slB a hi, .Subscript x (.Slice none (some y) none p2) p => chkE sc a x && chkE sc hi y
  | .slAB a lo hi, .Subscript x (.Slice (some y) (some z) none p2) p => chkE sc a x && chkE sc lo y && chkE sc hi z
  | .rev a, .Subscript x (.Slice none none (some (.UnaryOp .USub (.Constant (.int 1) q q2) q3)) p2) p => chkE sc a x
  | .lc own g it ce, .ListComp elt (⟨tg, iter, [], 0⟩ :: []) scope p => !T.hot && blkC N sc scope (ownP N own) && subB g.ix own && chkG N scope g tg && notSet iter && (chkIt sc it iter && (!it.isEn || isTup tg)) && chkE (relS scope sc) ce elt
  | .lcI own g it c ce, .ListComp elt (⟨tg, iter, (t :: []), 0⟩ :: []) scope p => !T.hot && blkC N sc scope (ownP N own) && subB g.ix own && chkG N scope g tg && notSet iter && (chkIt sc it iter && (!it.isEn || isTup tg)) && tOk c && chkE (relS scope sc) c t && chkE (relS scope sc) ce elt
  | .lcx own g it ce, .ListComp elt (⟨tg, iter, [], 0⟩ :: []) scope p => !T.hot && blkC N sc scope (ownP N own) && subB g.ix own && chkG N scope g tg && notSet iter && (chkIt sc it iter && (!it.isEn || isTup tg)) && chkX T N (relS scope sc) ce elt
  | .fst es, .JoinedStr xs p => fsB xs && fsL xs es && chkEs sc es (fsX xs)
  | .mth m o es, .Call (.Attribute y x q) zs [] p => decide (x = m) && notCall y && (q.endLine == p.line) && chkE sc o y && chkEs sc es zs && decide (zs.length < 20) && !T.hot
  | .mk c es, .Call (.Name x q) (y :: ys) [] p => decide (T.cls c = some x) && glB sc x && !dbg x && chkEs sc es (y :: ys) && !T.hot
  | .srtk f a, .Call (.Name x q) (y :: []) (⟨(some kw), (.Name z p2), p3⟩ :: []) p => !T.hot && decide (x = "sorted") && glB sc "sorted" && notStar y && chkE sc a y && decide (kw = "key") && decide (T.fn f = some z) && glB sc z && !dbg z
  | _, _ => false
def chkEs (sc : Scope) : Es → List Expr → Bool
  | .nil, [] => true
  | .cons e es, x :: xs => notStar x && chkE sc e x && chkEs sc es xs
  | _, _ => false
def chkIt (sc : Scope) : It → Expr → Bool
  | .e a, x => chkE sc a x
  | .rg1 a, .Call (.Name x _) [y] [] _ => decide (x = "range") && glB sc "range" && notStar y && chkE sc a y
  | .rg2 a b, .Call (.Name x _) [y, z] [] _ => decide (x = "range") && glB sc "range" && notStar y && notStar z && chkE sc a y && chkE sc b z
  | .rg3 a b c, .Call (.Name x _) [y, z, .Constant (.int d) _ _] [] _ => decide (x = "range") && glB sc "range" && notStar y && notStar z && decide (c = d) && chkE sc a y && chkE sc b z
  | .en a, .Call (.Name x _) [y] [] _ => decide (x = "enumerate") && glB sc "enumerate" && notStar y && chkE sc a y
  | .zp a b, .Call (.Name x _) [y, z] [] _ => decide (x = "zip") && glB sc "zip" && notStar y && notStar z && chkE sc a y && chkE sc b z
  | .rv a, .Call (.Name x _) [y] [] _ => decide (x = "reversed") && glB sc "reversed" && notStar y && chkE sc a y
  | .rgd a b, .Call (.Name x _) [y, z, .UnaryOp .USub (.Constant (.int 1) _ _) _] [] _ => decide (x = "range") && glB sc "range" && notStar y && notStar z && chkE sc a y && chkE sc b z
  | _, _ => false
end
/-- x = [..] on one line -/
def swT (sc : Scope) (y : Str) (py : Pos) : Expr → Bool
  | .ListComp _ _ scope pos => decide (sc.names.lookup y = some .local) && (py.line == pos.line) && !(scope.names.any fun (n, k) => n == y && (k == .local || k == .cell))
  | _ => false
def swF (sc : Scope) (y : Str) : Expr → Bool
  | .ListComp _ _ _ _ => decide (sc.names.lookup y = some .cell)
  | e => notComp e
def isLc : E → Bool
  | .lc _ _ _ _ => true | .lcI _ _ _ _ _ => true | _ => false
/-- the same, boxed -/
def isLcB : E → Bool
  | .lc _ _ _ _ => true | .lcI _ _ _ _ _ => true | .box (.lc _ _ _ _) => true | .box (.lcI _ _ _ _ _) => true | _ => false
abbrev Tb.bb (T : Tb) (b : Bool) : Tb := { T with bw := b }
end
section
mutual
def chkS (T : Tb) (N : List Str) (sc : Scope) : S → Stmt → Bool
  | .asg b (.name i) e, .Assign [.Name y py] ev _ => locB N sc i y && (swF sc y ev || (swT sc y py ev && isLcB e)) && chkE (T.bb b) N sc e ev
  | .asg b (.tup is) e, .Assign [.Tuple ts _ _] ev _ => !T.hot && chkNs N sc is ts && notTup ev && chkE (T.bb b) N sc e ev
  | .own b i e, .Assign [.Name y py] ev _ => locB N sc i y && (swF sc y ev || (swT sc y py ev && isLc e)) && chkE (T.bb b) N sc e ev
  | .apn b i e, .Expr (.Call (.Attribute (.Name y _) x apos) [ev] [] cpos) _ => visB N sc i y && decide (x = "append") && notStar ev && (apos.endLine == cpos.line) && chkE (T.bb b) N sc e ev
  | .setO b i k e, .Assign [.Subscript (.Name x _) y _] ev _ => visB N sc i x && chkE (T.bb true) N sc k y && notSlice y && chkE (T.bb b) N sc e ev
  | .asgIx o i e, .Assign [.Subscript x y _] ev _ => chkE (T.bb true) N sc o x && chkE (T.bb true) N sc i y && notSlice y && chkE (T.bb true) N sc e ev
  | .asgF o f e, .Assign [.Attribute x y _] ev _ => decide (y = f) && T.fld f && chkE (T.bb true) N sc o x && notComp ev && chkE (T.bb true) N sc e ev
  | .tr b hs, .Try body (hd :: hds) [] [] _ => !T.hot && chkSs T N sc b body && chkHs T N sc hs (hd :: hds)
  | .trx b j _, .Try body [.ExceptHandler (some (.Name x _)) none (_ :: _) _] [] [] _ => !T.hot && chkSs T N sc b body && (decide (T.xc j = some x) && glB sc x && !dbg x)
  | .drop e, .Expr ev _ => notComp ev && chkE (T.bb true) N sc e ev
  | .ret e, .Return (some ev) _ => chkE (T.bb true) N sc e ev
  | .retO i, .Return (some (.Name y _)) _ => visB N sc i y
  | .retN, .Return none _ => true
  | .ite c a b, .If t x y _ => tOk c && chkE (T.bb true) N sc c t && chkSs T N sc a x && chkSs T N sc b y
  | .fr bb g it b, .For tg iter body [] _ => !T.hot && chkG N sc g tg && notSet iter && (chkIt (T.bb bb) N sc it iter && (!it.isEn || isTup tg)) && chkSs T N sc b body
  | .whl _ c b, .While t body [] _ => !T.hot && tOk c && chkE (T.bb true) N sc c t && chkSs T N sc b body
  | .rse k, .Raise (some (.Call (.Name x _) [.Constant (.str _) _ _] [] _)) none _ => !T.hot && decide (T.xc k = some x) && glB sc x && !dbg x
  | .pass, .Pass _ => true
  | .brk, .Break _ => true
  | .cont, .Continue _ => true
  | _, _ => false
def chkSs (T : Tb) (N : List Str) (sc : Scope) : Ss → List Stmt → Bool
  | .nil, [] => true
  | .cons (.frz _) ss, xs => chkSs T N sc ss xs
  | .cons s ss, x :: xs => chkS T N sc s x && chkSs T N sc ss xs
  | _, _ => false
def chkHs (T : Tb) (N : List Str) (sc : Scope) : Hs → List ExceptHandler → Bool
  | .nil, [] => true
  | .cons j b hs, .ExceptHandler (some (.Name x _)) none (b0 :: suite) _ :: hds => decide (T.xc j = some x) && glB sc x && !dbg x && chkSs { T with hot := true } N sc b (b0 :: suite) && chkHs T N sc hs hds
  | .two i j b hs, .ExceptHandler (some (.Tuple [.Name x _, .Name y _] _ _)) none (b0 :: suite) _ :: hds => decide (T.xc i = some x) && glB sc x && !dbg x && (decide (T.xc j = some y) && glB sc y && !dbg y) && chkSs { T with hot := true } N sc b (b0 :: suite) && chkHs T N sc hs hds
  | _, _ => false
end
end
/-! ### what the check gives -/
structure Cok (rc : Nat → List D → Sto → O R) (P : Pg) (A : Adr) (W : WX) (T : Tb) (X : Cx) : Prop where
  calm : T.hot = false → X.calm = true
  bw : T.bw = true → A.bw = true
  wd : A.wd = X.w
  nod : X.N.Nodup
  hu : X.A.units + 65 < cLine
  tk : Takes X W
  stk : ∀ c d σ H, W c d σ H → X.stack = X.env :: X.outer ∧ X.env.frame = some X.env.locals
  fn : T.hot = false → ∀ (f : Nat) (x : Str), T.fn f = some x → ∃ (k : Nat) (fd : FuncData) (ps : List Str), FnOk X.prog X.w X.K X.mg X.base (L2.CX X.prog X.w) k (A.fn f) fd ps (SPf A X.K rc f) ∧ Room k X.A ∧ X.mg x = some (.ref (A.fn f)) ∧ PySem.W.keepIn X.K (.ref (A.fn f)) = true ∧ Binds X.K fd ps []
  fv : T.hot = false → ∀ f, (P.fn f).isSome = true → Cal X A rc f
  kf : T.hot = false → ∀ (f : Nat) (x : Str) (fd : Fd), T.fn f = some x → P.fn f = some fd → isFst fd = true → KeyF X.prog X.w X.A.in1.in1 X.K (A.fn f)
  fld : ∀ x, T.fld x = true → ∀ c, (P.ini c).isSome = true → Cls X.K (A.cl c) ∧ NoAttr X.K (A.cl c) x
  mt : T.hot = false → ∀ m c f, P.mt c m = some f → Cls X.K (A.cl c) ∧ Meth X.K (A.cl c) m (A.fn f) ∧ Cal X A rc f
  mak : T.hot = false → ∀ c x, T.cls c = some x → X.mg x = some (.ref (A.cl c)) ∧ ∃ f, P.ini c = some f ∧ Mak X A rc c f
  gv : ∀ x, T.gv x = true → ∀ d, P.gv x = some d → GvOk A X.K X.mg x d
  no : ∀ x ∈ bNames, X.mg x = none
section
variable {P : Pg} {rc : Nat → List D → Sto → O R} {A : Adr} {W : WX} {T : Tb} {X : Cx}
theorem Cok.blk (k : Cok rc P A W T X) (s : Shared) (H : Hp) (scope : Scope) (C : Addr) (cl : List (Str × Addr)) (fp : List Addr) : Cok rc P A W0 T (X.blk s H scope (compEnvC scope cl C X.env) fp) where
  calm := k.calm
  bw := k.bw
  wd := k.wd
  nod := k.nod
  hu := k.hu
  tk := takes0
  stk := fun _ _ _ _ z => z.elim
  fn := k.fn
  fv := fun z f h => ⟨(k.fv z f h).ok⟩
  kf := k.kf
  fld := k.fld
  mt := fun z m c f h => ⟨(k.mt z m c f h).1, (k.mt z m c f h).2.1, ⟨(k.mt z m c f h).2.2.ok⟩⟩
  mak := fun z c x h => by
    obtain ⟨g1, f, g2, g3⟩ := k.mak z c x h
    exact ⟨g1, f, g2, ⟨g3.mkr, g3.ok⟩⟩
  gv := k.gv
  no := k.no
end
/-! ### the small checks -/
section
variable {X : Cx} {e : Expr} {es : List Expr} {pos : Pos}
theorem star_of {e : Expr} {es : List Expr} (h : notStar e = true) : starEach (e :: es) X.env = (false, eval e X.env) :: starEach es X.env := by
  cases e <;> first | rfl | cases h
theorem back_of : ∀ {es : List Expr}, allNS es = true → (backTo pos (starEach es X.env)).any (·.1) = false
  | [], _ => rfl
  | e :: es, h => by
    simp only [allNS, Bool.and_eq_true] at h
    rw [star_of h.1]
    show (false || (backTo pos (starEach es X.env)).any (·.1)) = false
    rw [back_of h.2]
    rfl
theorem base_of {x : Str} (h : notCall e = true) : attributeBase e x X.env (eval e X.env) = eval e X.env := by
  cases e with
  | Call f as kws p => cases f <;> first | rfl | (cases as <;> first | rfl | cases h)
  | _ => rfl
theorem plain_of (h : notSlice e = true) : PlainIx e := by
  intro o i
  cases e <;> first | rfl | cases h
theorem fold_of (h : notSet e = true) : ∀ x, foldedSetIterable e X.env x = pure x := by
  intro x
  cases e <;> first | rfl | cases h
theorem vis_of {N : List Str} {sc : Scope} {i : Nat} {x : Str} (h : visB N sc i x = true) : N[i]? = some x ∧ Vis sc x ∧ (x == ("__debug__" : Str)) = false ∧ (x == ("__classdict__" : Str)) = false := by
  unfold visB dbg at h
  simp only [Bool.and_eq_true, Bool.or_eq_true, decide_eq_true_eq, Bool.not_eq_true'] at h
  obtain ⟨⟨⟨h1, h2⟩, h3⟩, h4⟩ := h
  refine ⟨h1, ?_, h3, h4⟩
  rcases h2 with (h2 | h2) | h2
  · exact .inl h2
  · exact .inr (.inl h2)
  · exact .inr (.inr h2)
theorem en_of {it : It} {tg : Expr} (h : (!it.isEn || isTup tg) = true) : it.isEn = true → isTup tg = true := fun e => by
  rw [e] at h
  simpa using h
theorem bmB0_of {m : Bm} (h : bmB m [] = true) : m = .pop ∨ m = .clear := by
  cases m <;> first | (exact .inl rfl) | (exact .inr rfl) | cases h
theorem bmB_of {m : Bm} {z : Expr} {zs : List Expr} (h : bmB m (z :: zs) = true) : (m = .append ∨ m = .insert ∨ m = .index ∨ m = .count ∨ m = .split ∨ m = .join ∨ m = .find ∨ m = .popI) ∨ (m = .get ∧ zs = []) ∨ (m = .popK ∧ zs = []) ∨ (m = .get2 ∧ ∃ z2, zs = [z2]) ∨ (m = .setd ∧ ∃ z2, zs = [z2]) := by
  cases m with
  | append => exact .inl (.inl rfl)
  | insert => exact .inl (.inr (.inl rfl))
  | index => exact .inl (.inr (.inr (.inl rfl)))
  | count => exact .inl (.inr (.inr (.inr (.inl rfl))))
  | split => exact .inl (.inr (.inr (.inr (.inr (.inl rfl)))))
  | join => exact .inl (.inr (.inr (.inr (.inr (.inr (.inl rfl))))))
  | find => exact .inl (.inr (.inr (.inr (.inr (.inr (.inr (.inl rfl)))))))
  | popI => exact .inl (.inr (.inr (.inr (.inr (.inr (.inr (.inr rfl)))))))
  | get =>
    cases zs with
    | nil => exact .inr (.inl ⟨rfl, rfl⟩)
    | cons a b => exact absurd h Bool.false_ne_true
  | popK =>
    cases zs with
    | nil => exact .inr (.inr (.inl ⟨rfl, rfl⟩))
    | cons a b => exact absurd h Bool.false_ne_true
  | get2 =>
    cases zs with
    | nil => exact absurd h Bool.false_ne_true
    | cons a b =>
      cases b with
      | nil => exact .inr (.inr (.inr (.inl ⟨rfl, a, rfl⟩)))
      | cons c d => exact absurd h Bool.false_ne_true
  | setd =>
    cases zs with
    | nil => exact absurd h Bool.false_ne_true
    | cons a b =>
      cases b with
      | nil => exact .inr (.inr (.inr (.inr ⟨rfl, a, rfl⟩)))
      | cons c d => exact absurd h Bool.false_ne_true
  | _ => exact absurd h Bool.false_ne_true
theorem bmB_len {m : Bm} : ∀ {zs : List Expr}, bmB m zs = true → zs.length < 3
  | [], _ => (by decide : (0 : Nat) < 3)
  | [_], _ => (by decide : (1 : Nat) < 3)
  | [_, _], _ => (by decide : (2 : Nat) < 3)
  | _ :: _ :: _ :: _, h => by cases m <;> exact absurd h Bool.false_ne_true
theorem few_of {e : Expr} {es : List Expr} (h1 : notStar e = true) (h2 : allNS es = true) (hl : (e :: es).length < 3) : ((backTo pos (starEach (e :: es) X.env)).all (fun x => !x.1) && (backToKw pos (keywordEach [] X.env)).all (fun x => x.1.isSome)
      && decide ((e :: es).length + ([] : List Keyword).length + (if ([] : List Keyword).isEmpty then 0 else 1) < 30)) = true := by
  have ha : ∀ {es : List Expr}, allNS es = true → (backTo pos (starEach es X.env)).all (fun x => !x.1) = true := fun {es} h => by
    have := back_of (X := X) (pos := pos) h
    rw [List.all_eq_true]
    intro x hx
    rw [List.any_eq_false] at this
    simpa using this x hx
  rw [ha (es := e :: es) (by simp only [allNS, Bool.and_eq_true]; exact ⟨h1, h2⟩)]
  have : (e :: es).length + ([] : List Keyword).length + (if ([] : List Keyword).isEmpty then 0 else 1) < 30 := by
    have e0 : (if ([] : List Keyword).isEmpty then 0 else 1) = 0 := rfl
    rw [e0]
    simp only [List.length_nil]
    omega
  rw [decide_eq_true this]
  rfl
theorem few_of20 {e : Expr} {es : List Expr} (h1 : notStar e = true) (h2 : allNS es = true) (hl : (e :: es).length < 20) : ((backTo pos (starEach (e :: es) X.env)).all (fun x => !x.1) && (backToKw pos (keywordEach [] X.env)).all (fun x => x.1.isSome)
      && decide ((e :: es).length + ([] : List Keyword).length + (if ([] : List Keyword).isEmpty then 0 else 1) < 30)) = true := by
  have ha : ∀ {es : List Expr}, allNS es = true → (backTo pos (starEach es X.env)).all (fun x => !x.1) = true := fun {es} h => by
    have := back_of (X := X) (pos := pos) h
    rw [List.all_eq_true]
    intro x hx
    rw [List.any_eq_false] at this
    simpa using this x hx
  rw [ha (es := e :: es) (by simp only [allNS, Bool.and_eq_true]; exact ⟨h1, h2⟩)]
  have : (e :: es).length + ([] : List Keyword).length + (if ([] : List Keyword).isEmpty then 0 else 1) < 30 := by
    have e0 : (if ([] : List Keyword).isEmpty then 0 else 1) = 0 := rfl
    rw [e0]
    simp only [List.length_nil]
    omega
  rw [decide_eq_true this]
  rfl
theorem loc_of {N : List Str} {sc : Scope} {i : Nat} {x : Str} (h : locB N sc i x = true) : N[i]? = some x ∧ L2.Loc sc x := by
  unfold locB at h
  simp only [Bool.and_eq_true, Bool.or_eq_true, decide_eq_true_eq] at h
  exact ⟨h.1, h.2⟩
end
section
variable {P : Pg} {rc : Nat → List D → Sto → O R} {A : Adr} {W : WX} {T : Tb} {X : Cx}
/-- names that may be stored -/
def Tgt (X : Cx) (tsc : Scope) : Prop := ∀ x, L2.Loc tsc x → L2.Loc X.env.scope x ∧ (X.fn x = true ∨ X.env.scope.names.lookup x = some .local)
theorem relS_look {scope sc : Scope} {x : Str} {k : NameKind} (hk : k ≠ .free) : ∀ {names : List (Str × NameKind)}, names.lookup x = some k →
    (names.map fun (n, k) => if (k == .free && sc.kind == .function && sc.names.lookup n == some .cell) then (n, NameKind.cell) else (n, k)).lookup x = some k
  | [], h => by simp at h
  | (n, k') :: r, h => by
    rw [List.map_cons]
    rw [List.lookup_cons] at h
    cases e : x == n with
    | false =>
      rw [e] at h
      have ih := relS_look (scope := scope) (sc := sc) hk h
      dsimp only
      by_cases q : (k' == NameKind.free && sc.kind == ScopeKind.function && List.lookup n sc.names == some NameKind.cell) = true
      · rw [if_pos q, List.lookup_cons, e]
        exact ih
      · rw [if_neg q, List.lookup_cons, e]
        exact ih
    | true =>
      rw [e] at h
      cases h
      dsimp only
      rw [if_neg, List.lookup_cons, e]
      cases k <;> first | (exact absurd rfl hk) | simp
theorem tgt_blk {s : Shared} {H : Hp} {scope : Scope} {C : Addr} {cl : List (Str × Addr)} {fp : List Addr} : Tgt (X.blk s H scope (compEnvC scope cl C X.env) fp) scope := fun x h => by
  rcases h with h | h
  · have g : (relS scope X.env.scope).names.lookup x = some .local := relS_look (scope := scope) (by decide) h
    exact ⟨.inl g, .inr g⟩
  · have g : (relS scope X.env.scope).names.lookup x = some .cell := relS_look (scope := scope) (by decide) h
    refine ⟨.inr g, .inl ?_⟩
    show (scope.names.lookup x == some .cell) = true
    rw [h]
    rfl
variable {tsc : Scope}
theorem okNs (k : Cok rc P A W T X) (tg : Tgt X tsc) : ∀ {is : List Nat} {es : List Expr}, chkNs X.N tsc is es = true → PGs X es (gNs is) ∧ (assignEach es X.env).length = is.length ∧ (assignEach es X.env).findIdx? (·.1) = none
  | [], [], _ => ⟨pgs_nil, rfl, rfl⟩
  | i :: is, .Name x p :: es, h => by
    simp only [chkNs, Bool.and_eq_true] at h
    obtain ⟨h1, h2⟩ := loc_of h.1
    obtain ⟨g1, g2, g3⟩ := okNs k tg h.2
    refine ⟨pgs_cons (pg_name k.nod h1 (tg _ h2).1 (tg _ h2).2) g1 rfl, ?_, ?_⟩
    · show (assignEach es X.env).length + 1 = is.length + 1
      rw [g2]
    · show List.findIdx? (·.1) ((false, _) :: assignEach es X.env) = none
      rw [List.findIdx?_cons]
      simp [g3]
  | [], _ :: _, h => by simp [chkNs] at h
  | _ :: _, [], h => by simp [chkNs] at h
  | i :: is, e :: es, h => by
    cases e with
    | Name x p =>
      simp only [chkNs, Bool.and_eq_true] at h
      obtain ⟨h1, h2⟩ := loc_of h.1
      obtain ⟨g1, g2, g3⟩ := okNs k tg h.2
      refine ⟨pgs_cons (pg_name k.nod h1 (tg _ h2).1 (tg _ h2).2) g1 rfl, ?_, ?_⟩
      · show (assignEach es X.env).length + 1 = is.length + 1
        rw [g2]
      · show List.findIdx? (·.1) ((false, _) :: assignEach es X.env) = none
        rw [List.findIdx?_cons]
        simp [g3]
    | _ => simp [chkNs] at h
theorem okG (k : Cok rc P A W T X) (hot : T.hot = false) (tg : Tgt X tsc) {g : G} {e : Expr} (h : chkG X.N tsc g e = true) : PG X e (tG X.K g) := by
  cases g with
  | name i =>
    cases e with
    | Name x p =>
      obtain ⟨h1, h2⟩ := loc_of h
      exact pg_name k.nod h1 (tg _ h2).1 (tg _ h2).2
    | _ => simp [chkG] at h
  | tup is =>
    cases e with
    | Tuple es n p =>
      obtain ⟨g1, g2, g3⟩ := okNs k tg (show chkNs X.N tsc is es = true from h)
      exact (pg_tup (k.calm hot) g1 g2 g3).or (pg_lst (k.calm hot) g1 g2 g3)
    | _ => simp [chkG] at h
theorem okTn (k : Cok rc P A W T X) : ∀ {ts : List Tn} {es : List Expr}, chkTn X.env.scope ts es = true → PA X es (tNs ts)
  | [], [], _ => sn_nil
  | t :: ts, .Name x p :: es, h => by
    simp only [chkTn, Bool.and_eq_true, decide_eq_true_eq, glB] at h
    obtain ⟨⟨h1, h2⟩, h3⟩ := h
    exact sn_cons (sn_name h1 h2 (by subst h1; exact k.no _ (by cases t <;> decide))) (okTn k h3) rfl
  | [], _ :: _, h => by simp [chkTn] at h
  | _ :: _, [], h => by simp [chkTn] at h
  | t :: ts, e :: es, h => by
    cases e with
    | Name x p =>
      simp only [chkTn, Bool.and_eq_true, decide_eq_true_eq, glB] at h
      obtain ⟨⟨h1, h2⟩, h3⟩ := h
      exact sn_cons (sn_name h1 h2 (by subst h1; exact k.no _ (by cases t <;> decide))) (okTn k h3) rfl
    | _ => simp [chkTn] at h
end
end Pl
/-! The check gives the readings. -/
namespace Pl
open PySem PySem.Spec
open PyProof.Rows hiding St
open L2
structure Ok3 (P : Pg) (rc : Nat → List D → Sto → O R) (A : Adr) (W : WX) (X : Cx) (c : E) (e : Expr) : Prop where
  pe : PE X e (tE P rc A X.K W c)
  pt : tOk c = true → PT X e (tT P rc A X.K W c)
  pw : tOk c = true → isBO e = true → PW X e (tT P rc A X.K W c)
section
variable {P : Pg} {rc : Nat → List D → Sto → O R} {A : Adr} {W : WX} {T : Tb} {X : Cx} {c : E} {e : Expr}
theorem Ok3.plain (h : PE X e (tE P rc A X.K W c)) (hb : isBO e = false) (hp : ∀ whole, isTrue e X.env whole = (do let v ← whole; standAt e.pos; holding [v] (truthy v))) : Ok3 P rc A W X c e :=
  ⟨h, fun _ => st_of (pt_val h hp), fun _ z => by rw [hb] at z; cases z⟩
theorem ownP_snd (N : List Str) (own : List Nat) : (ownP N own).map (·.2) = own := by
  unfold ownP
  rw [List.map_map]
  exact List.map_id' own
theorem sub_of {a b : List Nat} (h : subB a b = true) : ∀ i ∈ a, i ∈ b := fun i hi => by
  unfold subB at h
  rw [List.all_eq_true] at h
  have := h i hi
  simpa using this
theorem allNS_of {sc : Scope} {N : List Str} : ∀ {es : Es} {xs : List Expr}, chkEs T N sc es xs = true → allNS xs = true
  | .nil, [], _ => rfl
  | .cons e es, x :: xs, h => by
    simp only [chkEs, Bool.and_eq_true] at h
    simp only [allNS, Bool.and_eq_true]
    exact ⟨h.1.1, allNS_of h.2⟩
  | .nil, _ :: _, h => by simp [chkEs] at h
  | .cons _ _, [], h => by simp [chkEs] at h
theorem gl_of {x : Str} (h : glB X.env.scope x = true) : Gl X x := of_decide_eq_true (p := X.env.scope.names.lookup x = some .globalImplicit) h
theorem tn_mem (t : Tn) : Str.ofString t.nm ∈ bNames := by
  cases t <;> decide
theorem Ok3.box (h : Ok3 P rc A W X c e) : Ok3 P rc A W X (.box c) e := ⟨se_box h.pe, (fun z => by cases z), (fun z => by cases z)⟩
theorem Ok3.lck {i : Nat} (h : Ok3 P rc A W X c e) : Ok3 P rc A W X (.lck i c) e := ⟨se_lck h.pe, (fun z => by cases z), (fun z => by cases z)⟩
theorem one_of {N : List Str} {sc : Scope} {es : Es} {z : Expr} (h : chkEs T N sc es [z] = true) : ∃ e1, es = .cons e1 .nil ∧ chkE T N sc e1 z = true := by
  cases es with
  | nil => exact absurd h Bool.false_ne_true
  | cons e1 es =>
    have h : (notStar z && chkE T N sc e1 z && chkEs T N sc es []) = true := h
    simp only [Bool.and_eq_true] at h
    cases es with
    | nil => exact ⟨e1, rfl, h.1.2⟩
    | cons _ _ => exact absurd h.2 Bool.false_ne_true
theorem two_of {N : List Str} {sc : Scope} {es : Es} {z z2 : Expr} (h : chkEs T N sc es [z, z2] = true) : ∃ e1 e2, es = .cons e1 (.cons e2 .nil) ∧ chkE T N sc e1 z = true ∧ chkE T N sc e2 z2 = true := by
  cases es with
  | nil => exact absurd h Bool.false_ne_true
  | cons e1 es =>
    have h : (notStar z && chkE T N sc e1 z && chkEs T N sc es [z2]) = true := h
    simp only [Bool.and_eq_true] at h
    obtain ⟨e2, rfl, h2⟩ := one_of h.2
    exact ⟨e1, e2, rfl, h.1.2, h2⟩
theorem elt_ok {P : Pg} {rc : Nat → List D → Sto → O R} {A : Adr} {W : WX} {T : Tb} {X : Cx} (k : Cok rc P A W T X) (h0 : T.hot = false) {s : Shared} {H : Hp} {scope : Scope} {C : Addr} {cl : List (Str × Addr)} {fp : List Addr} {xe : Value → Shared → Prop} {σ : St} {ce : E} {elt : Expr} (h : chkX T X.N (relS scope X.env.scope) ce elt = true)
    (hx : ∀ σ', PassesAt (L2.CX X.prog X.w) ((X.blk s H scope (compEnvC scope cl C X.env) fp).tr [] xe) σ' (WE W σ)) : PE ((X.blk s H scope (compEnvC scope cl C X.env) fp).tr [] xe) elt (tE P rc A X.K (fun c d _ H => W c d σ H) ce) := by
  unfold chkX at h
  split at h
  · simp only [Bool.and_eq_true, decide_eq_true_eq, Bool.not_eq_true'] at h
    obtain ⟨⟨⟨h1, h2⟩, h3⟩, h4⟩ := h
    obtain ⟨kk, fd, ps, F, hr, hm, hk, hb⟩ := k.fn h0 _ _ h1
    obtain ⟨v1, v2, v3, v4⟩ := vis_of h4
    exact se_callx (X := (X.blk s H scope (compEnvC scope cl C X.env) fp).tr [] xe) (W := fun c d _ H => W c d σ H) F hr (gl_of h2) hm hk hb hx (sa_cons (se_var v1 v2 v3 v4) sa_nil rfl) h3 rfl rfl
  · cases h
mutual
theorem okE : ∀ (c : E) (W : WX) (X : Cx) (e : Expr), Cok rc P A W T X → chkE T X.N X.env.scope c e = true → Ok3 P rc A W X c e
  | .box a, W, X, e, k, h => (okE a W X e k h).box
  | .lck i a, W, X, e, k, h => (okE a W X e k h).lck
  | .var i, W, X, e, k, h => by
    cases e with
    | Name x p =>
     have h : (visB X.N X.env.scope i x) = true := h
     obtain ⟨h1, h2, h3, h4⟩ := vis_of h
     exact .plain (se_var h1 h2 h3 h4) rfl (fun _ => rfl)
    | _ => exact absurd h Bool.false_ne_true
  | .brw i, W, X, e, k, h => by
    cases e with
    | Name x p =>
     have h : (T.bw && visB X.N X.env.scope i x) = true := h
     rw [Bool.and_eq_true] at h
     obtain ⟨h0, h⟩ := h
     obtain ⟨h1, h2, h3, h4⟩ := vis_of h
     exact .plain (se_brw (k.bw h0) h1 h2 h3 h4) rfl (fun _ => rfl)
    | _ => exact absurd h Bool.false_ne_true
  | .int i, W, X, e, k, h => by
    cases e with
    | Constant z1 q p =>
     cases z1 with
     | int j =>
      have h : (decide (i = j)) = true := h
      cases of_decide_eq_true h
      exact .plain (se_int) rfl (fun _ => rfl)
     | _ => exact absurd h Bool.false_ne_true
    | _ => exact absurd h Bool.false_ne_true
  | .str i, W, X, e, k, h => by
    cases e with
    | Constant z2 q p =>
     cases z2 with
     | str j =>
      have h : (decide (i = j)) = true := h
      cases of_decide_eq_true h
      exact .plain (se_str) rfl (fun _ => rfl)
     | _ => exact absurd h Bool.false_ne_true
    | _ => exact absurd h Bool.false_ne_true
  | .bl i, W, X, e, k, h => by
    cases e with
    | Constant z3 q p =>
     cases z3 with
     | bool j =>
      have h : (decide (i = j)) = true := h
      cases of_decide_eq_true h
      exact .plain (se_bl) rfl (fun _ => rfl)
     | _ => exact absurd h Bool.false_ne_true
    | _ => exact absurd h Bool.false_ne_true
  | .non, W, X, e, k, h => by
    cases e with
    | Constant z4 q p =>
     cases z4 with
     | none =>
      have h : (true) = true := h
      exact .plain (se_non) rfl (fun _ => rfl)
     | _ => exact absurd h Bool.false_ne_true
    | _ => exact absurd h Bool.false_ne_true
  | .gv x, W, X, e, k, h => by
    cases e with
    | Name y p =>
     have h : (decide (x = y) && glB X.env.scope x && !dbg x && T.gv x) = true := h
     simp only [Bool.and_eq_true, decide_eq_true_eq, Bool.not_eq_true', beq_iff_eq] at h
     obtain ⟨⟨⟨h1, h2⟩, h3⟩, h4⟩ := h
     subst h1
     exact .plain (se_gv (gl_of h2) (k.gv _ h4) h3) rfl (fun _ => rfl)
    | _ => exact absurd h Bool.false_ne_true
  | .bin op a b, W, X, e, k, h => by
    cases e with
    | BinOp l o r p =>
     have h : (decide (o = op.op) && chkE T X.N X.env.scope a l && chkE T X.N X.env.scope b r) = true := h
     simp only [Bool.and_eq_true, decide_eq_true_eq, Bool.not_eq_true', beq_iff_eq] at h
     obtain ⟨⟨h1, h2⟩, h3⟩ := h
     subst h1
     exact .plain (se_bin (okE a W X l k h2).pe (okE b W X r k h3).pe) rfl (fun _ => rfl)
    | _ => exact absurd h Bool.false_ne_true
  | .neg a, W, X, e, k, h => by
    cases e with
    | UnaryOp z5 x p =>
     cases z5 with
     | USub =>
      have h : (chkE T X.N X.env.scope a x) = true := h
      exact .plain (se_un (okE a W X x k h).pe) rfl (fun _ => rfl)
     | _ => exact absurd h Bool.false_ne_true
    | _ => exact absurd h Bool.false_ne_true
  | .nt a, W, X, e, k, h => by
    cases e with
    | UnaryOp z6 x p =>
     cases z6 with
     | Not =>
      have h : (chkE T X.N X.env.scope a x) = true := h
      have g := okE a W X x k h
      exact ⟨se_nt g.pe, fun z => st_nt (g.pt z), fun _ z => by cases z⟩
     | _ => exact absurd h Bool.false_ne_true
    | _ => exact absurd h Bool.false_ne_true
  | .and a b, W, X, e, k, h => by
    cases e with
    | BoolOp z7 z8 p =>
     cases z7 with
     | And =>
      cases z8 with
      | cons x z9 =>
       cases z9 with
       | cons y rest =>
        have h : (chkE T X.N X.env.scope a x && (match (generalizing := false) rest with | [] => chkE T X.N X.env.scope b y | _ :: _ => chkE T X.N X.env.scope b (.BoolOp .And (y :: rest) p))) = true := h
        rw [Bool.and_eq_true] at h
        obtain ⟨h1, h2⟩ := h
        have ga := okE a W X x k h1
        cases rest with
        | nil =>
          have gb := okE b W X y k h2
          have pw : tOk (.and a b) = true → PW X (.BoolOp .And [x, y] p) (tT P rc A X.K W (.and a b)) := fun z => by
            have z : (tOk a && tOk b) = true := z
            rw [Bool.and_eq_true] at z
            exact sw_and (ga.pt z.1) (pw_and1 (gb.pt z.2))
          exact ⟨se_and ga.pe (pe_one gb.pe), fun z => (pw z).pt, fun z _ => pw z⟩
        | cons y2 rest =>
          have gb := okE b W X (.BoolOp .And (y :: y2 :: rest) p) k h2
          have pw : tOk (.and a b) = true → PW X (.BoolOp .And (x :: y :: y2 :: rest) p) (tT P rc A X.K W (.and a b)) := fun z => by
            have z : (tOk a && tOk b) = true := z
            rw [Bool.and_eq_true] at z
            exact sw_and (ga.pt z.1) (gb.pw z.2 rfl)
          exact ⟨se_and ga.pe gb.pe, fun z => (pw z).pt, fun z _ => pw z⟩
       | _ => exact absurd h Bool.false_ne_true
      | _ => exact absurd h Bool.false_ne_true
     | _ => exact absurd h Bool.false_ne_true
    | _ => exact absurd h Bool.false_ne_true
  | .or a b, W, X, e, k, h => by
    cases e with
    | BoolOp z10 z11 p =>
     cases z10 with
     | Or =>
      cases z11 with
      | cons x z12 =>
       cases z12 with
       | cons y rest =>
        have h : (chkE T X.N X.env.scope a x && (match (generalizing := false) rest with | [] => chkE T X.N X.env.scope b y | _ :: _ => chkE T X.N X.env.scope b (.BoolOp .Or (y :: rest) p))) = true := h
        rw [Bool.and_eq_true] at h
        obtain ⟨h1, h2⟩ := h
        have ga := okE a W X x k h1
        cases rest with
        | nil =>
          have gb := okE b W X y k h2
          have pw : tOk (.or a b) = true → PW X (.BoolOp .Or [x, y] p) (tT P rc A X.K W (.or a b)) := fun z => by
            have z : (tOk a && tOk b) = true := z
            rw [Bool.and_eq_true] at z
            exact sw_or (ga.pt z.1) (pw_or1 (gb.pt z.2))
          exact ⟨se_or ga.pe (pe_one gb.pe), fun z => (pw z).pt, fun z _ => pw z⟩
        | cons y2 rest =>
          have gb := okE b W X (.BoolOp .Or (y :: y2 :: rest) p) k h2
          have pw : tOk (.or a b) = true → PW X (.BoolOp .Or (x :: y :: y2 :: rest) p) (tT P rc A X.K W (.or a b)) := fun z => by
            have z : (tOk a && tOk b) = true := z
            rw [Bool.and_eq_true] at z
            exact sw_or (ga.pt z.1) (gb.pw z.2 rfl)
          exact ⟨se_or ga.pe gb.pe, fun z => (pw z).pt, fun z _ => pw z⟩
       | _ => exact absurd h Bool.false_ne_true
      | _ => exact absurd h Bool.false_ne_true
     | _ => exact absurd h Bool.false_ne_true
    | _ => exact absurd h Bool.false_ne_true
  | .orv a b, W, X, e, k, h => by
    cases e with
    | BoolOp z13 z14 p =>
     cases z13 with
     | Or =>
      cases z14 with
      | cons x z15 =>
       cases z15 with
       | cons y z16 =>
        cases z16 with
        | nil =>
         have h : (chkE T X.N X.env.scope a x && chkE T X.N X.env.scope b y) = true := h
         simp only [Bool.and_eq_true, decide_eq_true_eq, Bool.not_eq_true', beq_iff_eq] at h
         obtain ⟨h1, h2⟩ := h
         exact ⟨se_orv (okE a W X x k h1).pe (pe_one (okE b W X y k h2).pe), (fun z => by cases z), (fun z => by cases z)⟩
        | _ => exact absurd h Bool.false_ne_true
       | _ => exact absurd h Bool.false_ne_true
      | _ => exact absurd h Bool.false_ne_true
     | _ => exact absurd h Bool.false_ne_true
    | _ => exact absurd h Bool.false_ne_true
  | .cmp op a b, W, X, e, k, h => by
    cases e with
    | Compare l z17 z18 p =>
     cases z17 with
     | cons o z19 =>
      cases z19 with
      | nil =>
       cases z18 with
       | cons r z20 =>
        cases z20 with
        | nil =>
         have h : (decide (o = op.op) && chkE T X.N X.env.scope a l && chkE T X.N X.env.scope b r && !behindInMarks op.op r) = true := h
         simp only [Bool.and_eq_true, decide_eq_true_eq, Bool.not_eq_true', beq_iff_eq] at h
         obtain ⟨⟨⟨h1, h2⟩, h3⟩, h4⟩ := h
         subst h1
         have ga := okE a W X l k h2
         have gb := okE b W X r k h3
         exact ⟨se_cmp k.wd k.hu ga.pe gb.pe h4, fun _ => st_cmp k.wd k.hu ga.pe gb.pe h4, fun _ z => by cases z⟩
        | _ => exact absurd h Bool.false_ne_true
       | _ => exact absurd h Bool.false_ne_true
      | _ => exact absurd h Bool.false_ne_true
     | _ => exact absurd h Bool.false_ne_true
    | _ => exact absurd h Bool.false_ne_true
  | .chain op op' a b c, W, X, e, k, h => by
    cases e with
    | Compare l z21 z22 p =>
     cases z21 with
     | cons o z23 =>
      cases z23 with
      | cons o2 z24 =>
       cases z24 with
       | nil =>
        cases z22 with
        | cons r z25 =>
         cases z25 with
         | cons r2 z26 =>
          cases z26 with
          | nil =>
           have h : (decide (o = op.op) && decide (o2 = op'.op) && chkE T X.N X.env.scope a l && chkE T X.N X.env.scope b r && chkE T X.N X.env.scope c r2 && !lastMarks [op.op, op'.op] [r, r2]) = true := h
           simp only [Bool.and_eq_true, decide_eq_true_eq, Bool.not_eq_true', beq_iff_eq] at h
           obtain ⟨⟨⟨⟨⟨h1, h2⟩, h3⟩, h4⟩, h5⟩, h6⟩ := h
           subst h1 h2
           have ga := okE a W X l k h3
           have gb := okE b W X r k h4
           have gc := okE c W X r2 k h5
           exact ⟨se_chain k.wd k.hu ga.pe gb.pe gc.pe h6, fun _ => st_chain k.wd k.hu ga.pe gb.pe gc.pe h6, fun _ z => by cases z⟩
          | _ => exact absurd h Bool.false_ne_true
         | _ => exact absurd h Bool.false_ne_true
        | _ => exact absurd h Bool.false_ne_true
       | _ => exact absurd h Bool.false_ne_true
      | _ => exact absurd h Bool.false_ne_true
     | _ => exact absurd h Bool.false_ne_true
    | _ => exact absurd h Bool.false_ne_true
  | .ite c a b, W, X, e, k, h => by
    cases e with
    | IfExp t x y p =>
     have h : (tOk c && chkE T X.N X.env.scope c t && chkE T X.N X.env.scope a x && chkE T X.N X.env.scope b y) = true := h
     simp only [Bool.and_eq_true, decide_eq_true_eq, Bool.not_eq_true', beq_iff_eq] at h
     obtain ⟨⟨⟨h1, h2⟩, h3⟩, h4⟩ := h
     exact ⟨se_ite ((okE c W X t k h2).pt h1) (okE a W X x k h3).pe (okE b W X y k h4).pe, (fun z => by cases z), (fun _ z => by cases z)⟩
    | _ => exact absurd h Bool.false_ne_true
  | .tup es, W, X, e, k, h => by
    cases e with
    | Tuple xs q p =>
     have h : (chkEs T X.N X.env.scope es xs) = true := h
     exact .plain (se_tup (okEs es W X xs k h).1) rfl (fun _ => rfl)
    | _ => exact absurd h Bool.false_ne_true
  | .lst es, W, X, e, k, h => by
    cases e with
    | List xs p =>
     have h : (chkEs T X.N X.env.scope es xs) = true := h
     exact .plain (se_lst (okEs es W X xs k h).1) rfl (fun _ => rfl)
    | _ => exact absurd h Bool.false_ne_true
  | .dnT, W, X, e, k, h => by
    cases e with
    | Dict z27 z28 p =>
     cases z27 with
     | nil =>
      cases z28 with
      | nil =>
       have h : (true) = true := h
       exact .plain (se_dnT) rfl (fun _ => rfl)
      | _ => exact absurd h Bool.false_ne_true
     | _ => exact absurd h Bool.false_ne_true
    | _ => exact absurd h Bool.false_ne_true
  | .dsp ks es, W, X, e, k, h => by
    cases e with
    | Dict keys vals p =>
     have h : (dspB ks keys && decide (keys.length = vals.length) && decide (ks.length ≤ 15) && chkEs T X.N X.env.scope es vals) = true := h
     simp only [Bool.and_eq_true, decide_eq_true_eq, Bool.not_eq_true', beq_iff_eq] at h
     obtain ⟨⟨⟨h1, h2⟩, h3⟩, h4⟩ := h
     have pv := (okEs es W X vals k h4).2.2
     cases ks with
     | cons k1 ks1 => exact .plain (se_dsp h1 (Nat.succ_pos _) h3 h2 pv) rfl (fun _ => rfl)
     | nil =>
       cases keys with
       | cons _ _ => simp [dspB] at h1
       | nil =>
         cases vals with
         | cons _ _ => cases h2
         | nil =>
           cases pv
           exact .plain (se_dn) rfl (fun _ => rfl)
    | _ => exact absurd h Bool.false_ne_true
  | .call f es, W, X, e, k, h => by
    cases e with
    | Call z29 xs z30 p =>
     cases z29 with
     | Name x q =>
      cases z30 with
      | nil =>
       have h : (decide (T.fn f = some x) && glB X.env.scope x && !dbg x && chkEs T X.N X.env.scope es xs && !T.hot) = true := h
       simp only [Bool.and_eq_true, decide_eq_true_eq, Bool.not_eq_true', beq_iff_eq] at h
       obtain ⟨⟨⟨⟨h1, h2⟩, h3⟩, h4⟩, h5⟩ := h
       obtain ⟨kk, fd, ps, F, hr, hm, hk, hb⟩ := k.fn h5 f x h1
       have g := okEs es W X xs k h4
       have hn := allNS_of h4
       cases xs with
       | nil =>
         cases es with
         | nil => exact .plain (se_call0 F hr (gl_of h2) hm hk hb k.tk h3) rfl (fun _ => rfl)
         | cons e1 es1 => exact absurd h4 Bool.false_ne_true
       | cons y ys =>
         simp only [allNS, Bool.and_eq_true] at hn
         exact .plain (se_call F hr (gl_of h2) hm hk hb k.tk g.1 h3 (star_of hn.1) (back_of hn.2)) rfl (fun _ => rfl)
      | _ => exact absurd h Bool.false_ne_true
     | _ => exact absurd h Bool.false_ne_true
    | _ => exact absurd h Bool.false_ne_true
  | .cv i es, W, X, e, k, h => by
    cases e with
    | Call z31 z32 z33 p =>
     cases z31 with
     | Name x q =>
      cases z32 with
      | cons y ys =>
       cases z33 with
       | nil =>
        have h : (visB X.N X.env.scope i x && chkEs T X.N X.env.scope es (y :: ys) && !T.hot) = true := h
        rw [Bool.and_eq_true, Bool.and_eq_true, Bool.not_eq_true'] at h
        obtain ⟨⟨h0, h5⟩, h6⟩ := h
        obtain ⟨h1, h2, h3, h4⟩ := vis_of h0
        have hn := allNS_of h5
        simp only [allNS, Bool.and_eq_true] at hn
        exact .plain (se_cv (k.fv h6) h1 h2 h3 h4 k.tk (okEs es W X (y :: ys) k h5).1 (star_of hn.1) (back_of hn.2)) rfl (fun _ => rfl)
       | _ => exact absurd h Bool.false_ne_true
      | _ => exact absurd h Bool.false_ne_true
     | _ => exact absurd h Bool.false_ne_true
    | _ => exact absurd h Bool.false_ne_true
  | .bi b es, W, X, e, k, h => by
    cases e with
    | Call z34 z35 z36 p =>
     cases z34 with
     | Name x q =>
      cases z35 with
      | cons y ys =>
       cases z36 with
       | nil =>
        have h : (!T.hot && decide (x = b.nm) && glB X.env.scope x && chkEs T X.N X.env.scope es (y :: ys)) = true := h
        simp only [Bool.and_eq_true, decide_eq_true_eq, Bool.not_eq_true', beq_iff_eq] at h
        obtain ⟨⟨⟨h1, h2⟩, h3⟩, h4⟩ := h
        have g := okEs es W X (y :: ys) k h4
        have hn := allNS_of h4
        simp only [allNS, Bool.and_eq_true] at hn
        exact .plain (se_bi (k.calm h1) k.hu h2 (gl_of h3) (by subst h2; exact k.no _ (by cases b <;> decide)) g.2.1 (star_of hn.1) (back_of hn.2)) rfl (fun _ => rfl)
       | _ => exact absurd h Bool.false_ne_true
      | _ => exact absurd h Bool.false_ne_true
     | _ => exact absurd h Bool.false_ne_true
    | _ => exact absurd h Bool.false_ne_true
  | .isi a ts, W, X, e, k, h => by
    cases e with
    | Call z37 z38 z39 p =>
     cases z37 with
     | Name x q =>
      cases z38 with
      | cons y z40 =>
       cases z40 with
       | cons z z41 =>
        cases z41 with
        | nil =>
         cases z39 with
         | nil =>
          have h : (decide (x = "isinstance") && glB X.env.scope "isinstance" && notStar y && chkE T X.N X.env.scope a y && (match (generalizing := false) ts, z with | [t], .Name w _ => decide (w = Str.ofString t.nm) && glB X.env.scope w | ts, .Tuple ws _ _ => decide (ts.length ≤ 100) && chkTn X.env.scope ts ws | _, _ => false)) = true := h
          simp only [Bool.and_eq_true, decide_eq_true_eq] at h
          obtain ⟨⟨⟨⟨h1, h2⟩, h3⟩, h4⟩, h5⟩ := h
          subst h1
          have ga := (okE a W X y k h4).pe
          have hm := k.no "isinstance" (by decide)
          split at h5
          · next t w q2 q3 =>
            simp only [Bool.and_eq_true, decide_eq_true_eq] at h5
            exact .plain (se_isi1 (gl_of h2) hm ga (sn_name h5.1 (gl_of h5.2) (by rw [h5.1]; exact k.no _ (tn_mem _))) (star_of h3) rfl rfl) rfl (fun _ => rfl)
          · next ts ws q2 q3 q4 =>
            simp only [Bool.and_eq_true, decide_eq_true_eq] at h5
            exact .plain (se_isiT h5.1 (gl_of h2) hm ga (okTn k h5.2) (star_of h3) rfl) rfl (fun _ => rfl)
          · exact absurd h5 Bool.false_ne_true
         | _ => exact absurd h Bool.false_ne_true
        | _ => exact absurd h Bool.false_ne_true
       | _ => exact absurd h Bool.false_ne_true
      | _ => exact absurd h Bool.false_ne_true
     | _ => exact absurd h Bool.false_ne_true
    | _ => exact absurd h Bool.false_ne_true
  | .bm m o es, W, X, e, k, h => by
    cases e with
    | Call z42 zs z43 p =>
     cases z42 with
     | Attribute y x q =>
      cases z43 with
      | nil =>
       have h : (decide (x = m.nm) && notCall y && (q.endLine == p.line) && chkE T X.N X.env.scope o y && chkEs T X.N X.env.scope es zs && bmB m zs) = true := h
       simp only [Bool.and_eq_true, decide_eq_true_eq] at h
       obtain ⟨⟨⟨⟨⟨h1, h2⟩, h3⟩, h4⟩, h5⟩, h6⟩ := h
       have go := (okE o W X y k h4).pe
       have ga := (okEs es W X zs k h5).1
       have hn := allNS_of h5
       cases zs with
       | nil =>
         cases es with
         | nil => exact .plain (se_bm0 (bmB0_of h6) k.hu h1 go (base_of h2) h3) rfl (fun _ => rfl)
         | cons e1 es1 => exact absurd h5 Bool.false_ne_true
       | cons z zs =>
         simp only [allNS, Bool.and_eq_true] at hn
         rcases bmB_of h6 with hm | ⟨rfl, rfl⟩ | ⟨rfl, rfl⟩ | ⟨rfl, z2, rfl⟩ | ⟨rfl, z2, rfl⟩
         · exact .plain (se_bm hm k.hu h1 go ga (base_of h2) (few_of hn.1 hn.2 (bmB_len h6)) h3 (star_of hn.1) (back_of hn.2)) rfl (fun _ => rfl)
         · obtain ⟨e1, rfl, h7⟩ := one_of h5
           exact .plain (se_get k.hu h1 go (okE e1 W X z k h7).pe (base_of h2) h3 (star_of hn.1)) rfl (fun _ => rfl)
         · obtain ⟨e1, rfl, h7⟩ := one_of h5
           exact .plain (se_popK h1 go (okE e1 W X z k h7).pe (base_of h2) h3 (star_of hn.1)) rfl (fun _ => rfl)
         · obtain ⟨e1, e2, rfl, h7, h8⟩ := two_of h5
           have hn2 : (notStar z2 && true) = true := hn.2
           rw [Bool.and_true] at hn2
           exact .plain (se_get2 k.hu h1 go (okE e1 W X z k h7).pe (okE e2 W X z2 k h8).pe (base_of h2) h3 (star_of hn.1) (star_of hn2)) rfl (fun _ => rfl)
         · obtain ⟨e1, e2, rfl, h7, h8⟩ := two_of h5
           have hn2 : (notStar z2 && true) = true := hn.2
           rw [Bool.and_true] at hn2
           exact .plain (se_setd k.hu h1 go (okE e1 W X z k h7).pe (okE e2 W X z2 k h8).pe (base_of h2) h3 (star_of hn.1) (star_of hn2)) rfl (fun _ => rfl)
      | _ => exact absurd h Bool.false_ne_true
     | _ => exact absurd h Bool.false_ne_true
    | _ => exact absurd h Bool.false_ne_true
  | .fld o f, W, X, e, k, h => by
    cases e with
    | Attribute y x p =>
     have h : (decide (x = f) && notCall y && T.fld f && chkE T X.N X.env.scope o y) = true := h
     simp only [Bool.and_eq_true, decide_eq_true_eq, Bool.not_eq_true', beq_iff_eq] at h
     obtain ⟨⟨⟨h1, h2⟩, h3⟩, h4⟩ := h
     subst h1
     exact .plain (se_fld (k.fld _ h3) (okE o W X y k h4).pe (base_of h2)) rfl (fun _ => rfl)
    | _ => exact absurd h Bool.false_ne_true
  | .ix a i, W, X, e, k, h => by
    cases e with
    | Subscript x y p =>
     have h : (notSlice y && chkE T X.N X.env.scope a x && chkE T X.N X.env.scope i y) = true := h
     simp only [Bool.and_eq_true, decide_eq_true_eq, Bool.not_eq_true', beq_iff_eq] at h
     obtain ⟨⟨h1, h2⟩, h3⟩ := h
     exact .plain (se_ix k.wd k.hu (okE a W X x k h2).pe (okE i W X y k h3).pe (plain_of h1)) rfl (fun _ => rfl)
    | _ => exact absurd h Bool.false_ne_true
  | .sl a, W, X, e, k, h => by
    cases e with
    | Subscript x z44 p =>
     cases z44 with
     | Slice z45 z46 z47 p2 =>
      cases z45 with
      | none =>
       cases z46 with
       | none =>
        cases z47 with
        | none =>
         have h : (chkE T X.N X.env.scope a x) = true := h
         exact .plain (se_sl (okE a W X x k h).pe) rfl (fun _ => rfl)
        | _ => exact absurd h Bool.false_ne_true
       | _ => exact absurd h Bool.false_ne_true
      | _ => exact absurd h Bool.false_ne_true
     | _ => exact absurd h Bool.false_ne_true
    | _ => exact absurd h Bool.false_ne_true
  | .slA a lo, W, X, e, k, h => by
    cases e with
    | Subscript x z48 p =>
     cases z48 with
     | Slice z49 z50 z51 p2 =>
      cases z49 with
      | some y =>
       cases z50 with
       | none =>
        cases z51 with
        | none =>
         have h : (chkE T X.N X.env.scope a x && chkE T X.N X.env.scope lo y) = true := h
         simp only [Bool.and_eq_true, decide_eq_true_eq, Bool.not_eq_true', beq_iff_eq] at h
         obtain ⟨h1, h2⟩ := h
         exact .plain (se_slA (okE a W X x k h1).pe (okE lo W X y k h2).pe) rfl (fun _ => rfl)
        | _ => exact absurd h Bool.false_ne_true
       | _ => exact absurd h Bool.false_ne_true
      | _ => exact absurd h Bool.false_ne_true
     | _ => exact absurd h Bool.false_ne_true
    | _ => exact absurd h Bool.false_ne_true
  | .slB a hi, W, X, e, k, h => by
    cases e with
    | Subscript x z52 p =>
     cases z52 with
     | Slice z53 z54 z55 p2 =>
      cases z53 with
      | none =>
       cases z54 with
       | some y =>
        cases z55 with
        | none =>
         have h : (chkE T X.N X.env.scope a x && chkE T X.N X.env.scope hi y) = true := h
         simp only [Bool.and_eq_true, decide_eq_true_eq, Bool.not_eq_true', beq_iff_eq] at h
         obtain ⟨h1, h2⟩ := h
         exact .plain (se_slB (okE a W X x k h1).pe (okE hi W X y k h2).pe) rfl (fun _ => rfl)
        | _ => exact absurd h Bool.false_ne_true
       | _ => exact absurd h Bool.false_ne_true
      | _ => exact absurd h Bool.false_ne_true
     | _ => exact absurd h Bool.false_ne_true
    | _ => exact absurd h Bool.false_ne_true
  | .slAB a lo hi, W, X, e, k, h => by
    cases e with
    | Subscript x z56 p =>
     cases z56 with
     | Slice z57 z58 z59 p2 =>
      cases z57 with
      | some y =>
       cases z58 with
       | some z =>
        cases z59 with
        | none =>
         have h : (chkE T X.N X.env.scope a x && chkE T X.N X.env.scope lo y && chkE T X.N X.env.scope hi z) = true := h
         simp only [Bool.and_eq_true, decide_eq_true_eq, Bool.not_eq_true', beq_iff_eq] at h
         obtain ⟨⟨h1, h2⟩, h3⟩ := h
         exact .plain (se_slAB (okE a W X x k h1).pe (okE lo W X y k h2).pe (okE hi W X z k h3).pe) rfl (fun _ => rfl)
        | _ => exact absurd h Bool.false_ne_true
       | _ => exact absurd h Bool.false_ne_true
      | _ => exact absurd h Bool.false_ne_true
     | _ => exact absurd h Bool.false_ne_true
    | _ => exact absurd h Bool.false_ne_true
  | .rev a, W, X, e, k, h => by
    cases e with
    | Subscript x z60 p =>
     cases z60 with
     | Slice z61 z62 z63 p2 =>
      cases z61 with
      | none =>
       cases z62 with
       | none =>
        cases z63 with
        | some z64 =>
         cases z64 with
         | UnaryOp z65 z66 q3 =>
          cases z65 with
          | USub =>
           cases z66 with
           | Constant z67 q q2 =>
            cases z67 with
            | int z68 =>
             cases z68 with
             | negSucc n => exact absurd h Bool.false_ne_true
             | ofNat n =>
             cases n with
             | zero => exact absurd h Bool.false_ne_true
             | succ n =>
             cases n with
             | succ n => exact absurd h Bool.false_ne_true
             | zero =>
              have h : (chkE T X.N X.env.scope a x) = true := h
              exact .plain (se_rev (okE a W X x k h).pe) rfl (fun _ => rfl)
            | _ => exact absurd h Bool.false_ne_true
           | _ => exact absurd h Bool.false_ne_true
          | _ => exact absurd h Bool.false_ne_true
         | _ => exact absurd h Bool.false_ne_true
        | _ => exact absurd h Bool.false_ne_true
       | _ => exact absurd h Bool.false_ne_true
      | _ => exact absurd h Bool.false_ne_true
     | _ => exact absurd h Bool.false_ne_true
    | _ => exact absurd h Bool.false_ne_true
  | .lc own g it ce, W, X, e, k, h => by
    cases e with
    | ListComp elt z69 scope p =>
     cases z69 with
     | cons z70 z71 =>
      cases z70 with
      | mk tg iter z72 z73 =>
       cases z72 with
       | nil =>
        cases z73 with
        | negSucc n => exact absurd h Bool.false_ne_true
        | ofNat n =>
        cases n with
        | succ n => exact absurd h Bool.false_ne_true
        | zero =>
         cases z71 with
         | nil =>
          have h : (!T.hot && blkC X.N X.env.scope scope (ownP X.N own) && subB g.ix own && chkG X.N scope g tg && notSet iter && (chkIt T X.N X.env.scope it iter && (!it.isEn || isTup tg)) && chkE T X.N (relS scope X.env.scope) ce elt) = true := h
          simp only [Bool.and_eq_true, decide_eq_true_eq, Bool.not_eq_true', beq_iff_eq] at h
          obtain ⟨⟨⟨⟨⟨⟨h1, h2⟩, h3⟩, h4⟩, h5⟩, h6⟩, h7⟩ := h
          have hw : ∀ i ∈ g.ix, i ∈ (ownP X.N own).map (·.2) := by
            rw [ownP_snd]
            exact sub_of h3
          have g0 := se_lc (pos := p) (P := P) (rc := rc) (A := A) (W := W) (k.calm h1) k.nod (okIt it W X iter tg k h6.1 (en_of h6.2)) (blkOk_by h2) hw (fun s H C cl fp => okG (k.blk s H scope C cl fp) h1 tgt_blk h4) (fun s H C cl fp => (okE ce W0 _ elt (k.blk s H scope C cl fp) h7).pe) (fold_of h5)
          rw [ownP_snd] at g0
          exact .plain g0 rfl (fun _ => rfl)
         | _ => exact absurd h Bool.false_ne_true
       | _ => exact absurd h Bool.false_ne_true
     | _ => exact absurd h Bool.false_ne_true
    | _ => exact absurd h Bool.false_ne_true
  | .lcI own g it c ce, W, X, e, k, h => by
    cases e with
    | ListComp elt z74 scope p =>
     cases z74 with
     | cons z75 z76 =>
      cases z75 with
      | mk tg iter z77 z78 =>
       cases z77 with
       | cons t z79 =>
        cases z79 with
        | nil =>
         cases z78 with
         | negSucc n => exact absurd h Bool.false_ne_true
         | ofNat n =>
         cases n with
         | succ n => exact absurd h Bool.false_ne_true
         | zero =>
          cases z76 with
          | nil =>
           have h : (!T.hot && blkC X.N X.env.scope scope (ownP X.N own) && subB g.ix own && chkG X.N scope g tg && notSet iter && (chkIt T X.N X.env.scope it iter && (!it.isEn || isTup tg)) && tOk c && chkE T X.N (relS scope X.env.scope) c t && chkE T X.N (relS scope X.env.scope) ce elt) = true := h
           simp only [Bool.and_eq_true, decide_eq_true_eq, Bool.not_eq_true', beq_iff_eq] at h
           obtain ⟨⟨⟨⟨⟨⟨⟨⟨h1, h2⟩, h3⟩, h4⟩, h5⟩, h6⟩, h7⟩, h8⟩, h9⟩ := h
           have hw : ∀ i ∈ g.ix, i ∈ (ownP X.N own).map (·.2) := by
             rw [ownP_snd]
             exact sub_of h3
           have g0 := se_lcI (pos := p) (P := P) (rc := rc) (A := A) (W := W) (k.calm h1) k.nod (okIt it W X iter tg k h6.1 (en_of h6.2)) (blkOk_by h2) hw (fun s H C cl fp => okG (k.blk s H scope C cl fp) h1 tgt_blk h4) (fun s H C cl fp => (okE c W0 _ t (k.blk s H scope C cl fp) h8).pt h7) (fun s H C cl fp => (okE ce W0 _ elt (k.blk s H scope C cl fp) h9).pe) (fold_of h5)
           rw [ownP_snd] at g0
           exact .plain g0 rfl (fun _ => rfl)
          | _ => exact absurd h Bool.false_ne_true
        | _ => exact absurd h Bool.false_ne_true
       | _ => exact absurd h Bool.false_ne_true
     | _ => exact absurd h Bool.false_ne_true
    | _ => exact absurd h Bool.false_ne_true
  | .lcx own g it ce, W, X, e, k, h => by
    cases e with
    | ListComp elt z80 scope p =>
     cases z80 with
     | cons z81 z82 =>
      cases z81 with
      | mk tg iter z83 z84 =>
       cases z83 with
       | nil =>
        cases z84 with
        | negSucc n => exact absurd h Bool.false_ne_true
        | ofNat n =>
        cases n with
        | succ n => exact absurd h Bool.false_ne_true
        | zero =>
         cases z82 with
         | nil =>
          have h : (!T.hot && blkC X.N X.env.scope scope (ownP X.N own) && subB g.ix own && chkG X.N scope g tg && notSet iter && (chkIt T X.N X.env.scope it iter && (!it.isEn || isTup tg)) && chkX T X.N (relS scope X.env.scope) ce elt) = true := h
          simp only [Bool.and_eq_true, decide_eq_true_eq, Bool.not_eq_true', beq_iff_eq] at h
          obtain ⟨⟨⟨⟨⟨⟨h1, h2⟩, h3⟩, h4⟩, h5⟩, h6⟩, h7⟩ := h
          have hw : ∀ i ∈ g.ix, i ∈ (ownP X.N own).map (·.2) := by
            rw [ownP_snd]
            exact sub_of h3
          have g0 := se_lcx (pos := p) (P := P) (rc := rc) (A := A) (W := W) k.tk k.stk (k.calm h1) k.nod (okIt it W X iter tg k h6.1 (en_of h6.2)) (blkOk_by h2) hw (fun s H C cl fp => okG (k.blk s H scope C cl fp) h1 tgt_blk h4) (fun σ s H C cl fp xe hx => elt_ok k h1 h7 hx) (fold_of h5)
          rw [ownP_snd] at g0
          exact .plain g0 rfl (fun _ => rfl)
         | _ => exact absurd h Bool.false_ne_true
       | _ => exact absurd h Bool.false_ne_true
     | _ => exact absurd h Bool.false_ne_true
    | _ => exact absurd h Bool.false_ne_true
  | .fst es, W, X, e, k, h => by
    cases e with
    | JoinedStr xs p =>
     have h : (fsB xs && fsL xs es && chkEs T X.N X.env.scope es (fsX xs)) = true := h
     simp only [Bool.and_eq_true, decide_eq_true_eq, Bool.not_eq_true', beq_iff_eq] at h
     obtain ⟨⟨h1, h2⟩, h3⟩ := h
     exact .plain (se_fst h1 h2 (okEs es W X (fsX xs) k h3).2.2) rfl (fun _ => rfl)
    | _ => exact absurd h Bool.false_ne_true
  | .mth m o es, W, X, e, k, h => by
    cases e with
    | Call z85 zs z86 p =>
     cases z85 with
     | Attribute y x q =>
      cases z86 with
      | nil =>
       have h : (decide (x = m) && notCall y && (q.endLine == p.line) && chkE T X.N X.env.scope o y && chkEs T X.N X.env.scope es zs && decide (zs.length < 20) && !T.hot) = true := h
       simp only [Bool.and_eq_true, decide_eq_true_eq, Bool.not_eq_true'] at h
       obtain ⟨⟨⟨⟨⟨⟨h1, h2⟩, h3⟩, h4⟩, h5⟩, h6⟩, h7⟩ := h
       have go := (okE o W X y k h4).pe
       have ga := (okEs es W X zs k h5).1
       have hn := allNS_of h5
       cases zs with
       | nil =>
         cases es with
         | nil => exact .plain (se_mth0 (k.mt h7 m) h1 k.tk go (base_of h2) h3) rfl (fun _ => rfl)
         | cons e1 es1 => exact absurd h5 Bool.false_ne_true
       | cons z zs =>
         simp only [allNS, Bool.and_eq_true] at hn
         exact .plain (se_mth (k.mt h7 m) h1 k.tk go ga (base_of h2) h3 (few_of20 hn.1 hn.2 h6) (star_of hn.1) (back_of hn.2)) rfl (fun _ => rfl)
      | _ => exact absurd h Bool.false_ne_true
     | _ => exact absurd h Bool.false_ne_true
    | _ => exact absurd h Bool.false_ne_true
  | .mk c es, W, X, e, k, h => by
    cases e with
    | Call z87 z88 z89 p =>
     cases z87 with
     | Name x q =>
      cases z88 with
      | cons y ys =>
       cases z89 with
       | nil =>
        have h : (decide (T.cls c = some x) && glB X.env.scope x && !dbg x && chkEs T X.N X.env.scope es (y :: ys) && !T.hot) = true := h
        simp only [Bool.and_eq_true, decide_eq_true_eq, Bool.not_eq_true', beq_iff_eq] at h
        obtain ⟨⟨⟨⟨h1, h2⟩, h3⟩, h4⟩, h5⟩ := h
        have hn := allNS_of h4
        simp only [allNS, Bool.and_eq_true] at hn
        obtain ⟨g1, f, g2, g3⟩ := k.mak h5 _ _ h1
        exact .plain (se_mk g2 g3 g1 (gl_of h2) h3 (okEs es W X (y :: ys) k h4).1 k.tk (star_of hn.1) (back_of hn.2)) rfl (fun _ => rfl)
       | _ => exact absurd h Bool.false_ne_true
      | _ => exact absurd h Bool.false_ne_true
     | _ => exact absurd h Bool.false_ne_true
    | _ => exact absurd h Bool.false_ne_true
  | .srtk f a, W, X, e, k, h => by
    cases e with
    | Call z90 z91 z92 p =>
     cases z90 with
     | Name x q =>
      cases z91 with
      | cons y z93 =>
       cases z93 with
       | nil =>
        cases z92 with
        | cons z94 z95 =>
         cases z94 with
         | mk z96 z97 p3 =>
          cases z96 with
          | some kw =>
           cases z97 with
           | Name z p2 =>
            cases z95 with
            | nil =>
             have h : (!T.hot && decide (x = "sorted") && glB X.env.scope "sorted" && notStar y && chkE T X.N X.env.scope a y && decide (kw = "key") && decide (T.fn f = some z) && glB X.env.scope z && !dbg z) = true := h
             simp only [Bool.and_eq_true, decide_eq_true_eq, Bool.not_eq_true', beq_iff_eq] at h
             obtain ⟨⟨⟨⟨⟨⟨⟨⟨h1, h2⟩, h3⟩, h4⟩, h5⟩, h6⟩, h7⟩, h8⟩, h9⟩ := h
             subst h2
             subst h6
             obtain ⟨kk, fd, ps, F, hr, hm, hk, hb⟩ := k.fn h1 f z h7
             exact .plain (se_srtk (fun fd e1 e2 => k.kf h1 f z fd h7 e1 e2) k.hu (okE a W X y k h5).pe (gl_of h3) (k.no _ (by decide)) (gl_of h8) hm h9 (star_of h4)) rfl (fun _ => rfl)
            | _ => exact absurd h Bool.false_ne_true
           | _ => exact absurd h Bool.false_ne_true
          | _ => exact absurd h Bool.false_ne_true
        | _ => exact absurd h Bool.false_ne_true
       | _ => exact absurd h Bool.false_ne_true
      | _ => exact absurd h Bool.false_ne_true
     | _ => exact absurd h Bool.false_ne_true
    | _ => exact absurd h Bool.false_ne_true
theorem okEs : ∀ (es : Es) (W : WX) (X : Cx) (xs : List Expr), Cok rc P A W T X → chkEs T X.N X.env.scope es xs = true → PA X xs (tEs P rc A X.K W es) ∧ PA X xs (tRs P rc A X.K W es) ∧ PV P rc A W X xs es
  | .nil, W, X, xs, k, h => by
    cases xs with
    | nil => exact ⟨sa_nil, sr_nil, .nil⟩
    | cons x xs => exact absurd h Bool.false_ne_true
  | .cons e es, W, X, xs, k, h => by
    cases xs with
    | nil => exact absurd h Bool.false_ne_true
    | cons x xs =>
      have h : (notStar x && chkE T X.N X.env.scope e x && chkEs T X.N X.env.scope es xs) = true := h
      simp only [Bool.and_eq_true] at h
      obtain ⟨⟨h1, h2⟩, h3⟩ := h
      have g := (okE e W X x k h2).pe
      have gs := okEs es W X xs k h3
      exact ⟨sa_cons g gs.1 (star_of h1), sr_cons g gs.2.1 (star_of h1), .cons g gs.2.2⟩
theorem okIt : ∀ (it : It) (W : WX) (X : Cx) (e tg : Expr), Cok rc P A W T X → chkIt T X.N X.env.scope it e = true → (it.isEn = true → isTup tg = true) → PI X tg e (tIt P rc A X.K W it)
  | .e a, W, X, e, tg, k, h, _ => si_e (okE a W X e k h).pe
  | .rg1 a, W, X, e, tg, k, h, _ => by
    cases e with
    | Call z98 z99 z100 p =>
     cases z98 with
     | Name x q =>
      cases z99 with
      | cons y z101 =>
       cases z101 with
       | nil =>
        cases z100 with
        | nil =>
         have h : (decide (x = "range") && glB X.env.scope "range" && notStar y && chkE T X.N X.env.scope a y) = true := h
         simp only [Bool.and_eq_true, decide_eq_true_eq] at h
         obtain ⟨⟨⟨h1, h2⟩, h3⟩, h4⟩ := h
         subst h1
         exact si_rg1 (gl_of h2) (k.no _ (by decide)) (okE a W X y k h4).pe (star_of h3)
        | _ => exact absurd h Bool.false_ne_true
       | _ => exact absurd h Bool.false_ne_true
      | _ => exact absurd h Bool.false_ne_true
     | _ => exact absurd h Bool.false_ne_true
    | _ => exact absurd h Bool.false_ne_true
  | .rg2 a b, W, X, e, tg, k, h, _ => by
    cases e with
    | Call z102 z103 z104 p =>
     cases z102 with
     | Name x q =>
      cases z103 with
      | cons y z105 =>
       cases z105 with
       | cons z z106 =>
        cases z106 with
        | nil =>
         cases z104 with
         | nil =>
          have h : (decide (x = "range") && glB X.env.scope "range" && notStar y && notStar z && chkE T X.N X.env.scope a y && chkE T X.N X.env.scope b z) = true := h
          simp only [Bool.and_eq_true, decide_eq_true_eq] at h
          obtain ⟨⟨⟨⟨⟨h1, h2⟩, h3⟩, h4⟩, h5⟩, h6⟩ := h
          subst h1
          exact si_rg2 (gl_of h2) (k.no _ (by decide)) (okE a W X y k h5).pe (okE b W X z k h6).pe (star_of h3) (star_of h4)
         | _ => exact absurd h Bool.false_ne_true
        | _ => exact absurd h Bool.false_ne_true
       | _ => exact absurd h Bool.false_ne_true
      | _ => exact absurd h Bool.false_ne_true
     | _ => exact absurd h Bool.false_ne_true
    | _ => exact absurd h Bool.false_ne_true
  | .en a, W, X, e, tg, k, h, ht => by
    have ht := ht rfl
    cases e with
    | Call z107 z108 z109 p =>
     cases z107 with
     | Name x q =>
      cases z108 with
      | cons y z110 =>
       cases z110 with
       | nil =>
        cases z109 with
        | nil =>
         have h : (decide (x = "enumerate") && glB X.env.scope "enumerate" && notStar y && chkE T X.N X.env.scope a y) = true := h
         simp only [Bool.and_eq_true, decide_eq_true_eq] at h
         obtain ⟨⟨⟨h1, h2⟩, h3⟩, h4⟩ := h
         subst h1
         cases tg with
         | Tuple elts kk tpos => exact si_en (gl_of h2) (k.no _ (by decide)) (okE a W X y k h4).pe (star_of h3)
         | _ => exact absurd ht Bool.false_ne_true
        | _ => exact absurd h Bool.false_ne_true
       | _ => exact absurd h Bool.false_ne_true
      | _ => exact absurd h Bool.false_ne_true
     | _ => exact absurd h Bool.false_ne_true
    | _ => exact absurd h Bool.false_ne_true
  | .rg3 a b cc, W, X, e, tg, k, h, _ => by
    cases e with
    | Call z111 z112 z113 p =>
     cases z111 with
     | Name x q =>
      cases z112 with
      | cons y z114 =>
       cases z114 with
       | cons z z115 =>
        cases z115 with
        | cons z116 z117 =>
         cases z116 with
         | Constant z118 j3 p3 =>
          cases z118 with
          | int dd =>
           cases z117 with
           | nil =>
            cases z113 with
            | nil =>
             have h : (decide (x = "range") && glB X.env.scope "range" && notStar y && notStar z && decide (cc = dd) && chkE T X.N X.env.scope a y && chkE T X.N X.env.scope b z) = true := h
             simp only [Bool.and_eq_true, decide_eq_true_eq] at h
             obtain ⟨⟨⟨⟨⟨⟨h1, h2⟩, h3⟩, h4⟩, h5⟩, h6⟩, h7⟩ := h
             subst h1
             subst h5
             exact si_rg3 (gl_of h2) (k.no _ (by decide)) (okE a W X y k h6).pe (okE b W X z k h7).pe (star_of h3) (star_of h4)
            | _ => exact absurd h Bool.false_ne_true
           | _ => exact absurd h Bool.false_ne_true
          | _ => exact absurd h Bool.false_ne_true
         | _ => exact absurd h Bool.false_ne_true
        | _ => exact absurd h Bool.false_ne_true
       | _ => exact absurd h Bool.false_ne_true
      | _ => exact absurd h Bool.false_ne_true
     | _ => exact absurd h Bool.false_ne_true
    | _ => exact absurd h Bool.false_ne_true
  | .zp a b, W, X, e, tg, k, h, ht => by
    have ht := ht rfl
    cases e with
    | Call z119 z120 z121 p =>
     cases z119 with
     | Name x q =>
      cases z120 with
      | cons y z122 =>
       cases z122 with
       | cons z z123 =>
        cases z123 with
        | nil =>
         cases z121 with
         | nil =>
          have h : (decide (x = "zip") && glB X.env.scope "zip" && notStar y && notStar z && chkE T X.N X.env.scope a y && chkE T X.N X.env.scope b z) = true := h
          simp only [Bool.and_eq_true, decide_eq_true_eq] at h
          obtain ⟨⟨⟨⟨⟨h1, h2⟩, h3⟩, h4⟩, h5⟩, h6⟩ := h
          subst h1
          cases tg with
          | Tuple elts kk tpos => exact si_zp (gl_of h2) (k.no _ (by decide)) (okE a W X y k h5).pe (okE b W X z k h6).pe (star_of h3) (star_of h4)
          | _ => exact absurd ht Bool.false_ne_true
         | _ => exact absurd h Bool.false_ne_true
        | _ => exact absurd h Bool.false_ne_true
       | _ => exact absurd h Bool.false_ne_true
      | _ => exact absurd h Bool.false_ne_true
     | _ => exact absurd h Bool.false_ne_true
    | _ => exact absurd h Bool.false_ne_true
  | .rv a, W, X, e, tg, k, h, _ => by
    cases e with
    | Call z124 z125 z126 p =>
     cases z124 with
     | Name x q =>
      cases z125 with
      | cons y z127 =>
       cases z127 with
       | nil =>
        cases z126 with
        | nil =>
         have h : (decide (x = "reversed") && glB X.env.scope "reversed" && notStar y && chkE T X.N X.env.scope a y) = true := h
         simp only [Bool.and_eq_true, decide_eq_true_eq] at h
         obtain ⟨⟨⟨h1, h2⟩, h3⟩, h4⟩ := h
         subst h1
         exact si_rv (gl_of h2) (k.no _ (by decide)) (okE a W X y k h4).pe (star_of h3)
        | _ => exact absurd h Bool.false_ne_true
       | _ => exact absurd h Bool.false_ne_true
      | _ => exact absurd h Bool.false_ne_true
     | _ => exact absurd h Bool.false_ne_true
    | _ => exact absurd h Bool.false_ne_true
  | .rgd a b, W, X, e, tg, k, h, _ => by
    cases e with
    | Call z128 z129 z130 p =>
     cases z128 with
     | Name x q =>
      cases z129 with
      | cons y z131 =>
       cases z131 with
       | cons z z132 =>
        cases z132 with
        | cons z133 z134 =>
         cases z133 with
         | UnaryOp z135 z136 p4 =>
          cases z135 with
          | USub =>
           cases z136 with
           | Constant z137 j3 p3 =>
            cases z137 with
            | int z138 =>
             cases z138 with
             | negSucc n => exact absurd h Bool.false_ne_true
             | ofNat n =>
             cases n with
             | zero => exact absurd h Bool.false_ne_true
             | succ n =>
             cases n with
             | succ n => exact absurd h Bool.false_ne_true
             | zero =>
              cases z134 with
              | nil =>
               cases z130 with
               | nil =>
                have h : (decide (x = "range") && glB X.env.scope "range" && notStar y && notStar z && chkE T X.N X.env.scope a y && chkE T X.N X.env.scope b z) = true := h
                simp only [Bool.and_eq_true, decide_eq_true_eq] at h
                obtain ⟨⟨⟨⟨⟨h1, h2⟩, h3⟩, h4⟩, h5⟩, h6⟩ := h
                subst h1
                exact si_rgd (gl_of h2) (k.no _ (by decide)) (okE a W X y k h5).pe (okE b W X z k h6).pe (star_of h3) (star_of h4)
               | _ => exact absurd h Bool.false_ne_true
              | _ => exact absurd h Bool.false_ne_true
            | _ => exact absurd h Bool.false_ne_true
           | _ => exact absurd h Bool.false_ne_true
          | _ => exact absurd h Bool.false_ne_true
         | _ => exact absurd h Bool.false_ne_true
        | _ => exact absurd h Bool.false_ne_true
       | _ => exact absurd h Bool.false_ne_true
      | _ => exact absurd h Bool.false_ne_true
     | _ => exact absurd h Bool.false_ne_true
    | _ => exact absurd h Bool.false_ne_true
end
end
end Pl
/-! The check of statements. -/
namespace Pl
open PySem PySem.Spec
open PyProof.Rows hiding St
open L2
section
variable {T : Tb} {N : List Str} {sc : Scope}
theorem lc_parts {own : List Nat} {g : G} {it : It} {ce : E} {elt : Expr} {gens : List Comprehension} {scope : Scope} {p : Pos} (h : chkE T N sc (.lc own g it ce) (.ListComp elt gens scope p) = true) :
    ∃ tg iter, gens = [⟨tg, iter, [], 0⟩] ∧ T.hot = false ∧ blkC N sc scope (ownP N own) = true ∧ subB g.ix own = true ∧ chkG N scope g tg = true ∧ notSet iter = true ∧ (chkIt T N sc it iter = true ∧ (!it.isEn || isTup tg) = true) ∧ chkE T N (relS scope sc) ce elt = true := by
  cases gens with
  | nil => exact absurd h Bool.false_ne_true
  | cons cc rest =>
    cases cc with
    | mk tg iter ifs as =>
      cases ifs with
      | cons t ts => exact absurd h Bool.false_ne_true
      | nil =>
        cases rest with
        | cons r2 rs => simp [chkE] at h
        | nil =>
          cases as with
          | negSucc n => exact absurd h Bool.false_ne_true
          | ofNat n =>
            cases n with
            | succ n => exact absurd h Bool.false_ne_true
            | zero =>
              have h : (!T.hot && blkC N sc scope (ownP N own) && subB g.ix own && chkG N scope g tg && notSet iter && (chkIt T N sc it iter && (!it.isEn || isTup tg)) && chkE T N (relS scope sc) ce elt) = true := h
              rw [Bool.and_eq_true, Bool.and_eq_true, Bool.and_eq_true, Bool.and_eq_true, Bool.and_eq_true, Bool.and_eq_true, Bool.and_eq_true, Bool.not_eq_true'] at h
              obtain ⟨⟨⟨⟨⟨⟨h0, h1⟩, h2⟩, h3⟩, h4⟩, h5⟩, h6⟩ := h
              exact ⟨_, _, rfl, h0, h1, h2, h3, h4, h5, h6⟩
theorem lcI_parts {own : List Nat} {g : G} {it : It} {c ce : E} {elt : Expr} {gens : List Comprehension} {scope : Scope} {p : Pos} (h : chkE T N sc (.lcI own g it c ce) (.ListComp elt gens scope p) = true) :
    ∃ tg iter t, gens = [⟨tg, iter, [t], 0⟩] ∧ T.hot = false ∧ blkC N sc scope (ownP N own) = true ∧ subB g.ix own = true ∧ chkG N scope g tg = true ∧ notSet iter = true ∧ (chkIt T N sc it iter = true ∧ (!it.isEn || isTup tg) = true) ∧ tOk c = true ∧ chkE T N (relS scope sc) c t = true ∧ chkE T N (relS scope sc) ce elt = true := by
  cases gens with
  | nil => exact absurd h Bool.false_ne_true
  | cons cc rest =>
    cases cc with
    | mk tg iter ifs as =>
      cases ifs with
      | nil => exact absurd h Bool.false_ne_true
      | cons t ts =>
        cases ts with
        | cons t2 ts => exact absurd h Bool.false_ne_true
        | nil =>
          cases rest with
          | cons r2 rs => simp [chkE] at h
          | nil =>
            cases as with
            | negSucc n => exact absurd h Bool.false_ne_true
            | ofNat n =>
              cases n with
              | succ n => exact absurd h Bool.false_ne_true
              | zero =>
                have h : (!T.hot && blkC N sc scope (ownP N own) && subB g.ix own && chkG N scope g tg && notSet iter && (chkIt T N sc it iter && (!it.isEn || isTup tg)) && tOk c && chkE T N (relS scope sc) c t && chkE T N (relS scope sc) ce elt) = true := h
                rw [Bool.and_eq_true, Bool.and_eq_true, Bool.and_eq_true, Bool.and_eq_true, Bool.and_eq_true, Bool.and_eq_true, Bool.and_eq_true, Bool.and_eq_true, Bool.and_eq_true, Bool.not_eq_true'] at h
                obtain ⟨⟨⟨⟨⟨⟨⟨⟨h0, h1⟩, h2⟩, h3⟩, h4⟩, h5⟩, h6⟩, h7⟩, h8⟩ := h
                exact ⟨_, _, _, rfl, h0, h1, h2, h3, h4, h5, h6, h7, h8⟩
end
/-- a def's body: what its statements need -/
structure Cst (rc : Nat → List D → Sto → O R) (P : Pg) (A : Adr) (W : WX) (T : Tb) (X : Cx) : Prop where
  c : ∀ b, Cok rc P (A.b b) W (T.bb b) X
  own : PassesOwn (model X.prog X.w) X.A X.env X.xe
  tgt : Tgt X X.env.scope
  kind : X.env.scope.kind = .function
  xc : ∀ k x, T.xc k = some x → XcOk X (A.xc k) x
  stk : X.stack = X.env :: X.outer
  frm : X.env.frame = some X.env.locals
  sub : ∀ k j b, P.sub j k = some b → PySem.W.exmOne X.K (.ref (A.xc k)) (.ref (A.xc j)) = some b
section
variable {P : Pg} {rc : Nat → List D → Sto → O R} {A : Adr} {W W' : WX} {T : Tb} {X : Cx}
theorem Cst.tr (k : Cst rc P A W T X) {pn : List (Addr × Obj)} {xe : Value → Shared → Prop} (tk : Takes (X.tr pn xe) W') (po : PassesOwn (model X.prog X.w) X.A X.env xe) : Cst rc P A W' T (X.tr pn xe) where
  c := fun b => { calm := (k.c b).calm, bw := (k.c b).bw, wd := (k.c b).wd, nod := (k.c b).nod, hu := (k.c b).hu, tk := tk, stk := fun _ _ _ _ _ => ⟨k.stk, k.frm⟩, fn := (k.c b).fn, fv := fun z f h => ⟨((k.c b).fv z f h).ok⟩, kf := (k.c b).kf, fld := (k.c b).fld, mt := fun z m c f h => ⟨((k.c b).mt z m c f h).1, ((k.c b).mt z m c f h).2.1, ⟨((k.c b).mt z m c f h).2.2.ok⟩⟩, mak := fun z c x h => (let ⟨g1, f, g2, g3⟩ := (k.c b).mak z c x h; ⟨g1, f, g2, ⟨g3.mkr, g3.ok⟩⟩), gv := (k.c b).gv, no := (k.c b).no }
  own := po
  tgt := k.tgt
  kind := k.kind
  xc := fun j x h => ⟨(k.xc j x h).mg, (k.xc j x h).exc, (k.xc j x h).kp, (k.xc j x h).sub, (k.xc j x h).ty⟩
  stk := k.stk
  frm := k.frm
  sub := k.sub
theorem Cst.hot (k : Cst rc P A W T X) (a : Addr) (pn : List (Addr × Obj)) : Cst rc P A W0 { T with hot := true } (X.suite a pn) ∧ ∀ j x, T.xc j = some x → XcOk X (A.xc j) x := ⟨{
  c := fun b => { calm := (fun z => by cases z), bw := (k.c b).bw, wd := (k.c b).wd, nod := (k.c b).nod, hu := (k.c b).hu, tk := takes0, stk := (fun _ _ _ _ z => z.elim), fn := (fun z => by cases z), fv := (fun z => by cases z), kf := (fun z => by cases z), fld := (k.c b).fld, mt := (fun z => by cases z), mak := (fun z => by cases z), gv := (k.c b).gv, no := (k.c b).no }
  own := PassesOwn.never
  tgt := k.tgt
  kind := k.kind
  xc := fun j x h => ⟨(k.xc j x h).mg, (k.xc j x h).exc, (k.xc j x h).kp, (k.xc j x h).sub, (k.xc j x h).ty⟩
  stk := k.stk
  frm := k.frm
  sub := k.sub }, k.xc⟩
end
section
variable {P : Pg} {rc : Nat → List D → Sto → O R} {A : Adr} {W : WX} {T : Tb} {X : Cx}
theorem sw_false {e tg : Expr} {l : Nat} (h : notComp e = true) : swapsWith e (some tg) l X.env = pure false := by
  cases e <;> first | rfl | cases h
theorem sw_none {e : Expr} {l : Nat} (h : notComp e = true) : swapsWith e none l X.env = pure false := by
  cases e <;> first | rfl | cases h
theorem sw_cell {elt : Expr} {gs : List Comprehension} {scope : Scope} {pos py : Pos} {y : Str} {l : Nat} {env : Env} (hy : env.scope.names.lookup y = some .cell) : swapsWith (.ListComp elt gs scope pos) (some (.Name y py)) l env = pure false := by
  have ky : env.kindOf y = some .cell := hy
  unfold swapsWith
  simp only [ky]
  have : (some NameKind.cell == some NameKind.local) = false := by decide
  simp only [this, Bool.and_false, Bool.false_and]
theorem swF_of {y : Str} {py : Pos} {e : Expr} {l : Nat} (h : swF X.env.scope y e = true) : swapsWith e (some (.Name y py)) l X.env = pure false := by
  cases e with
  | ListComp elt gs sc p => exact sw_cell (of_decide_eq_true (p := X.env.scope.names.lookup y = some .cell) h)
  | _ => first | rfl | cases h
theorem notTup_of {tg e : Expr} (h : notTup e = true) : swappedStores [tg] e X.env = pure none := by
  unfold swappedStores
  cases e <;> first | (exact absurd h Bool.false_ne_true) | (cases tg <;> rfl)
theorem sub_swap {o i e : Expr} {p2 : Pos} : swappedStores [.Subscript o i p2] e X.env = pure none := by
  unfold swappedStores
  cases e <;> rfl
theorem setG_one {tg : Expr} (h : notStar tg = true) : (assignEach [tg] X.env).map (·.2) = [assign tg X.env] := by
  cases tg <;> first | rfl | cases h
theorem sub_assign {o i : Expr} {p2 : Pos} (h : notSlice i = true) : ∀ v, assign (.Subscript o i p2) X.env v = (do
      let ov ← holding [v] (eval o X.env)
      let iv ← holding [v, ov] (eval i X.env)
      standAt p2
      holding [v, ov, iv] (setItem ov iv v)
      release [v, ov, iv] []) := by
  intro v
  cases i <;> first | rfl | cases h
mutual
theorem okS : ∀ (s : S) (W : WX) (T : Tb) (X : Cx) (st : Stmt), Cst rc P A W T X → chkS T X.N X.env.scope s st = true → PS X st (tS P rc A X.K W s)
  | .asg b (.name i) e, W, T, X, st, k, h => by
    cases st with
    | Assign tgs ev pos =>
      cases tgs with
      | cons tg tgs =>
        cases tg with
        | Name y py =>
          cases tgs with
          | nil =>
            have h : (locB X.N X.env.scope i y && (swF X.env.scope y ev || (swT X.env.scope y py ev && isLcB e)) && chkE (T.bb b) X.N X.env.scope e ev) = true := h
            rw [Bool.and_eq_true, Bool.and_eq_true, Bool.or_eq_true, Bool.and_eq_true] at h
            obtain ⟨⟨h1, h2⟩, h3⟩ := h
            obtain ⟨hi, hx⟩ := loc_of h1
            have kc := k.c b
            rcases h2 with h2 | ⟨h2, hlc⟩
            · exact s_set kc.nod hi hx (okE e W X ev kc h3).pe (swF_of h2) (k.tgt _ hx).2
            · cases ev with
              | ListComp elt gens scope p =>
                have h2 : (decide (X.env.scope.names.lookup y = some .local) && (py.line == p.line) && !(scope.names.any fun (n, k) => n == y && (k == .local || k == .cell))) = true := h2
                simp only [Bool.and_eq_true, decide_eq_true_eq, Bool.not_eq_true'] at h2
                obtain ⟨⟨hl, hln⟩, hn⟩ := h2
                have sw : swapsWith (.ListComp elt gens scope p) (some (.Name y py)) pos.line X.env = pure true := sw_true k.kind hl hln hn
                cases e with
                | lc own g it ce =>
                  obtain ⟨tg, iter, rfl, g0, g1, g2, g3, g4, g5, g6⟩ := lc_parts h3
                  have hw : ∀ i ∈ g.ix, i ∈ (ownP X.N own).map (·.2) := by
                    rw [ownP_snd]
                    exact sub_of g2
                  have q := s_setLc (pos := p) (P := P) (rc := rc) (A := A) (W := W) (kc.calm g0) kc.nod hi hl sw (okIt it W X iter tg kc g5.1 (en_of g5.2)) (blkOk_by g1) hw (fun s H C cl fp => okG (kc.blk s H scope C cl fp) g0 tgt_blk g3) (fun s H C cl fp => (okE ce W0 _ elt (kc.blk s H scope C cl fp) g6).pe) (fold_of g4)
                  rw [ownP_snd] at q
                  exact q
                | lcI own g it c ce =>
                  obtain ⟨tg, iter, t, rfl, g0, g1, g2, g3, g4, g5, g6, g7, g8⟩ := lcI_parts h3
                  have hw : ∀ i ∈ g.ix, i ∈ (ownP X.N own).map (·.2) := by
                    rw [ownP_snd]
                    exact sub_of g2
                  have q := s_setLcI (pos := p) (P := P) (rc := rc) (A := A) (W := W) (kc.calm g0) kc.nod hi hl sw (okIt it W X iter tg kc g5.1 (en_of g5.2)) (blkOk_by g1) hw (fun s H C cl fp => okG (kc.blk s H scope C cl fp) g0 tgt_blk g3) (fun s H C cl fp => (okE c W0 _ t (kc.blk s H scope C cl fp) g7).pt g6) (fun s H C cl fp => (okE ce W0 _ elt (kc.blk s H scope C cl fp) g8).pe) (fold_of g4)
                  rw [ownP_snd] at q
                  exact q
                | box e =>
                  cases e with
                  | lc own g it ce =>
                    obtain ⟨tg, iter, rfl, g0, g1, g2, g3, g4, g5, g6⟩ := lc_parts (show chkE _ _ _ (.lc own g it ce) _ = true from h3)
                    have hw : ∀ i ∈ g.ix, i ∈ (ownP X.N own).map (·.2) := by
                      rw [ownP_snd]
                      exact sub_of g2
                    have q := s_setLcB (pos := p) (P := P) (rc := rc) (A := A) (W := W) (kc.calm g0) kc.nod hi hl sw (okIt it W X iter tg kc g5.1 (en_of g5.2)) (blkOk_by g1) hw (fun s H C cl fp => okG (kc.blk s H scope C cl fp) g0 tgt_blk g3) (fun s H C cl fp => (okE ce W0 _ elt (kc.blk s H scope C cl fp) g6).pe) (fold_of g4)
                    rw [ownP_snd] at q
                    exact q
                  | lcI own g it c ce =>
                    obtain ⟨tg, iter, t, rfl, g0, g1, g2, g3, g4, g5, g6, g7, g8⟩ := lcI_parts h3
                    have hw : ∀ i ∈ g.ix, i ∈ (ownP X.N own).map (·.2) := by
                      rw [ownP_snd]
                      exact sub_of g2
                    have q := s_setLcIB (pos := p) (P := P) (rc := rc) (A := A) (W := W) (kc.calm g0) kc.nod hi hl sw (okIt it W X iter tg kc g5.1 (en_of g5.2)) (blkOk_by g1) hw (fun s H C cl fp => okG (kc.blk s H scope C cl fp) g0 tgt_blk g3) (fun s H C cl fp => (okE c W0 _ t (kc.blk s H scope C cl fp) g7).pt g6) (fun s H C cl fp => (okE ce W0 _ elt (kc.blk s H scope C cl fp) g8).pe) (fold_of g4)
                    rw [ownP_snd] at q
                    exact q
                  | _ => exact absurd hlc Bool.false_ne_true
                | _ => exact absurd hlc Bool.false_ne_true
              | _ => exact absurd h2 Bool.false_ne_true
          | cons _ _ => exact absurd h Bool.false_ne_true
        | _ => exact absurd h Bool.false_ne_true
      | nil => exact absurd h Bool.false_ne_true
    | _ => exact absurd h Bool.false_ne_true
  | .own b i e, W, T, X, st, k, h => by
    cases st with
    | Assign tgs ev pos =>
      cases tgs with
      | cons tg tgs =>
        cases tg with
        | Name y py =>
          cases tgs with
          | nil =>
            have h : (locB X.N X.env.scope i y && (swF X.env.scope y ev || (swT X.env.scope y py ev && isLc e)) && chkE (T.bb b) X.N X.env.scope e ev) = true := h
            rw [Bool.and_eq_true, Bool.and_eq_true, Bool.or_eq_true, Bool.and_eq_true] at h
            obtain ⟨⟨h1, h2⟩, h3⟩ := h
            obtain ⟨hi, hx⟩ := loc_of h1
            have kc := k.c b
            rcases h2 with h2 | ⟨h2, hlc⟩
            · exact s_own kc.nod hi hx (okE e W X ev kc h3).pe (swF_of h2) (k.tgt _ hx).2
            · cases ev with
              | ListComp elt gens scope p =>
                have h2 : (decide (X.env.scope.names.lookup y = some .local) && (py.line == p.line) && !(scope.names.any fun (n, k) => n == y && (k == .local || k == .cell))) = true := h2
                simp only [Bool.and_eq_true, decide_eq_true_eq, Bool.not_eq_true'] at h2
                obtain ⟨⟨hl, hln⟩, hn⟩ := h2
                have sw : swapsWith (.ListComp elt gens scope p) (some (.Name y py)) pos.line X.env = pure true := sw_true k.kind hl hln hn
                cases e with
                | lc own g it ce =>
                  obtain ⟨tg, iter, rfl, g0, g1, g2, g3, g4, g5, g6⟩ := lc_parts h3
                  have hw : ∀ i ∈ g.ix, i ∈ (ownP X.N own).map (·.2) := by
                    rw [ownP_snd]
                    exact sub_of g2
                  have q := s_ownLc (pos := p) (P := P) (rc := rc) (A := A) (W := W) (kc.calm g0) kc.nod hi hl sw (okIt it W X iter tg kc g5.1 (en_of g5.2)) (blkOk_by g1) hw (fun s H C cl fp => okG (kc.blk s H scope C cl fp) g0 tgt_blk g3) (fun s H C cl fp => (okE ce W0 _ elt (kc.blk s H scope C cl fp) g6).pe) (fold_of g4)
                  rw [ownP_snd] at q
                  exact q
                | lcI own g it c ce =>
                  obtain ⟨tg, iter, t, rfl, g0, g1, g2, g3, g4, g5, g6, g7, g8⟩ := lcI_parts h3
                  have hw : ∀ i ∈ g.ix, i ∈ (ownP X.N own).map (·.2) := by
                    rw [ownP_snd]
                    exact sub_of g2
                  have q := s_ownLcI (pos := p) (P := P) (rc := rc) (A := A) (W := W) (kc.calm g0) kc.nod hi hl sw (okIt it W X iter tg kc g5.1 (en_of g5.2)) (blkOk_by g1) hw (fun s H C cl fp => okG (kc.blk s H scope C cl fp) g0 tgt_blk g3) (fun s H C cl fp => (okE c W0 _ t (kc.blk s H scope C cl fp) g7).pt g6) (fun s H C cl fp => (okE ce W0 _ elt (kc.blk s H scope C cl fp) g8).pe) (fold_of g4)
                  rw [ownP_snd] at q
                  exact q
                | _ => exact absurd hlc Bool.false_ne_true
              | _ => exact absurd h2 Bool.false_ne_true
          | cons _ _ => exact absurd h Bool.false_ne_true
        | _ => exact absurd h Bool.false_ne_true
      | nil => exact absurd h Bool.false_ne_true
    | _ => exact absurd h Bool.false_ne_true
  | .asg b (.tup is) e, W, T, X, st, k, h => by
    cases st with
    | Assign tgs ev pos =>
      cases tgs with
      | cons tg tgs =>
        cases tg with
        | Tuple ts n p2 =>
          cases tgs with
          | nil =>
            have h : (!T.hot && chkNs X.N X.env.scope is ts && notTup ev && chkE (T.bb b) X.N X.env.scope e ev) = true := h
            simp only [Bool.and_eq_true, Bool.not_eq_true'] at h
            obtain ⟨⟨⟨h0, h1⟩, h2⟩, h3⟩ := h
            refine s_asg (okE e W X ev (k.c b) h3).pe (okG (k.c b) h0 k.tgt (g := .tup is) h1) ?_ (notTup_of h2) rfl
            cases ev <;> rfl
          | cons _ _ => exact absurd h Bool.false_ne_true
        | _ => exact absurd h Bool.false_ne_true
      | nil => exact absurd h Bool.false_ne_true
    | _ => exact absurd h Bool.false_ne_true
  | .apn b i e, W, T, X, st, k, h => by
    cases st with
    | Expr ev pos =>
      cases ev with
      | Call fe as kws cpos =>
        cases fe with
        | Attribute oe x apos =>
          cases oe with
          | Name y p =>
            cases as with
            | cons z zs =>
              cases zs with
              | nil =>
                cases kws with
                | nil =>
                  have h : (visB X.N X.env.scope i y && decide (x = "append") && notStar z && (apos.endLine == cpos.line) && chkE (T.bb b) X.N X.env.scope e z) = true := h
                  simp only [Bool.and_eq_true, decide_eq_true_eq] at h
                  obtain ⟨⟨⟨⟨h1, h2⟩, h3⟩, h4⟩, h5⟩ := h
                  obtain ⟨g1, g2, g3, g4⟩ := vis_of h1
                  exact s_apn g1 g2 g3 g4 h2 (okE e W X z (k.c b) h5).pe (star_of h3) (few_of h3 rfl (by show 1 < 3; decide)) h4 rfl rfl
                | cons _ _ => exact absurd h Bool.false_ne_true
              | cons _ _ => exact absurd h Bool.false_ne_true
            | nil => exact absurd h Bool.false_ne_true
          | _ => exact absurd h Bool.false_ne_true
        | _ => exact absurd h Bool.false_ne_true
      | _ => exact absurd h Bool.false_ne_true
    | _ => exact absurd h Bool.false_ne_true
  | .setO b i kk e, W, T, X, st, k, h => by
    cases st with
    | Assign tgs ev pos =>
      cases tgs with
      | cons tg tgs =>
        cases tg with
        | Subscript x y p2 =>
          cases x with
          | Name xn p =>
            cases tgs with
            | nil =>
              have h : (visB X.N X.env.scope i xn && chkE (T.bb true) X.N X.env.scope kk y && notSlice y && chkE (T.bb b) X.N X.env.scope e ev) = true := h
              simp only [Bool.and_eq_true] at h
              obtain ⟨⟨⟨h1, h2⟩, h4⟩, h5⟩ := h
              obtain ⟨g1, g2, g3, g4⟩ := vis_of h1
              refine s_setO g1 g2 g3 g4 (okE kk W X y (k.c true) h2).pe (okE e W X ev (k.c b) h5).pe (sub_assign h4) ?_ sub_swap rfl
              cases ev <;> rfl
            | cons _ _ => exact absurd h Bool.false_ne_true
          | _ => exact absurd h Bool.false_ne_true
        | _ => exact absurd h Bool.false_ne_true
      | nil => exact absurd h Bool.false_ne_true
    | _ => exact absurd h Bool.false_ne_true
  | .asgIx o i e, W, T, X, st, k, h => by
    cases st with
    | Assign tgs ev pos =>
      cases tgs with
      | cons tg tgs =>
        cases tg with
        | Subscript x y p2 =>
          cases tgs with
          | nil =>
            have h : (chkE (T.bb true) X.N X.env.scope o x && chkE (T.bb true) X.N X.env.scope i y && notSlice y && chkE (T.bb true) X.N X.env.scope e ev) = true := h
            simp only [Bool.and_eq_true] at h
            obtain ⟨⟨⟨h1, h2⟩, h4⟩, h5⟩ := h
            refine s_setIx (k.c true).hu (okE o W X x (k.c true) h1).pe (okE i W X y (k.c true) h2).pe (okE e W X ev (k.c true) h5).pe (sub_assign h4) ?_ sub_swap rfl
            cases ev <;> rfl
          | cons _ _ => exact absurd h Bool.false_ne_true
        | _ => exact absurd h Bool.false_ne_true
      | nil => exact absurd h Bool.false_ne_true
    | _ => exact absurd h Bool.false_ne_true
  | .frz i, W, T, X, st, k, h => absurd h (by cases st <;> exact Bool.false_ne_true)
  | .asgF o f e, W, T, X, st, k, h => by
    cases st with
    | Assign tgs ev pos =>
      cases tgs with
      | cons tg tgs =>
        cases tg with
        | Attribute x y p2 =>
          cases tgs with
          | nil =>
            have h : (decide (y = f) && T.fld f && chkE (T.bb true) X.N X.env.scope o x && notComp ev && chkE (T.bb true) X.N X.env.scope e ev) = true := h
            simp only [Bool.and_eq_true, decide_eq_true_eq] at h
            obtain ⟨⟨⟨⟨h1, h2⟩, h3⟩, h4⟩, h5⟩ := h
            subst h1
            exact s_asgF ((k.c true).fld _ h2) (okE o W X x (k.c true) h3).pe (okE e W X ev (k.c true) h5).pe (sw_false h4)
          | cons _ _ => exact absurd h Bool.false_ne_true
        | _ => exact absurd h Bool.false_ne_true
      | nil => exact absurd h Bool.false_ne_true
    | _ => exact absurd h Bool.false_ne_true
  | .trx b j l, W, T, X, st, k, h => by
    cases st with
    | Try body hds els fin pos =>
      cases hds with
      | nil => exact absurd h Bool.false_ne_true
      | cons hd hds =>
        cases hd with
        | ExceptHandler ty nm su p =>
          cases ty with
          | none => cases hds <;> exact absurd h Bool.false_ne_true
          | some ty =>
            cases ty with
            | Name x np =>
              cases nm with
              | some _ => cases hds <;> exact absurd h Bool.false_ne_true
              | none =>
                cases su with
                | nil => cases hds <;> exact absurd h Bool.false_ne_true
                | cons b0 su =>
                  cases hds with
                  | cons _ _ => exact absurd h Bool.false_ne_true
                  | nil =>
                    cases els with
                    | cons _ _ => exact absurd h Bool.false_ne_true
                    | nil =>
                      cases fin with
                      | cons _ _ => exact absurd h Bool.false_ne_true
                      | nil =>
                        have h : (!T.hot && chkSs T X.N X.env.scope b body && (decide (T.xc j = some x) && glB X.env.scope x && !dbg x)) = true := h
                        simp only [Bool.and_eq_true, Bool.not_eq_true', decide_eq_true_eq] at h
                        obtain ⟨⟨h0, h1⟩, ⟨h2, h3⟩, h4⟩ := h
                        exact s_trx k.stk k.frm (k.c true).tk ⟨gl_of h3, h4, .inl ((k.hot 0 []).2 j x h2).mg⟩ (fun W' pn xe tk po => okSs b W' T (X.tr pn xe) body (k.tr tk po) h1)
            | _ => cases hds <;> exact absurd h Bool.false_ne_true
    | _ => exact absurd h Bool.false_ne_true
  | .tr b hs, W, T, X, st, k, h => by
    cases st with
    | Try body hds els fin pos =>
      cases hds with
      | nil => exact absurd h Bool.false_ne_true
      | cons hd hds =>
        cases els with
        | cons _ _ => exact absurd h Bool.false_ne_true
        | nil =>
          cases fin with
          | cons _ _ => exact absurd h Bool.false_ne_true
          | nil =>
            have h : (!T.hot && chkSs T X.N X.env.scope b body && chkHs T X.N X.env.scope hs (hd :: hds)) = true := h
            simp only [Bool.and_eq_true, Bool.not_eq_true'] at h
            obtain ⟨⟨h0, h1⟩, h2⟩ := h
            exact s_try k.stk k.frm (k.c true).tk k.sub (fun W' pn xe tk po => okSs b W' T (X.tr pn xe) body (k.tr tk po) h1) (okHs hs T X (hd :: hds) k.hot h2)
    | _ => exact absurd h Bool.false_ne_true
  | .rse n, W, T, X, st, k, h => by
    cases st with
    | Raise ex cause pos =>
      cases ex with
      | some ex =>
        cases ex with
        | Call fe as kws p3 =>
          cases fe with
          | Name x p =>
            cases as with
            | cons z zs =>
              cases z with
              | Constant c j p2 =>
                cases c with
                | str m =>
                  cases zs with
                  | nil =>
                    cases kws with
                    | nil =>
                      cases cause with
                      | none =>
                        have h : (!T.hot && decide (T.xc n = some x) && glB X.env.scope x && !dbg x) = true := h
                        simp only [Bool.and_eq_true, decide_eq_true_eq, Bool.not_eq_true'] at h
                        obtain ⟨⟨⟨h0, h1⟩, h2⟩, h3⟩ := h
                        exact s_rse ((k.c true).calm h0) (k.c true).tk (k.xc n x h1) (gl_of h2) h3
                      | some _ => exact absurd h Bool.false_ne_true
                    | cons _ _ => exact absurd h Bool.false_ne_true
                  | cons _ _ => exact absurd h Bool.false_ne_true
                | _ => exact absurd h Bool.false_ne_true
              | _ => exact absurd h Bool.false_ne_true
            | nil => exact absurd h Bool.false_ne_true
          | _ => exact absurd h Bool.false_ne_true
        | _ => exact absurd h Bool.false_ne_true
      | none => exact absurd h Bool.false_ne_true
    | _ => exact absurd h Bool.false_ne_true
  | .drop e, W, T, X, st, k, h => by
    cases st with
    | Expr ev pos =>
      have h : (notComp ev && chkE (T.bb true) X.N X.env.scope e ev) = true := h
      simp only [Bool.and_eq_true] at h
      exact s_drop (okE e W X ev (k.c true) h.2).pe (sw_none h.1)
    | _ => exact absurd h Bool.false_ne_true
  | .ret e, W, T, X, st, k, h => by
    cases st with
    | Return v pos =>
      cases v with
      | some ev => exact s_ret (okE e W X ev (k.c true) h).pe
      | none => exact absurd h Bool.false_ne_true
    | _ => exact absurd h Bool.false_ne_true
  | .retO i, W, T, X, st, k, h => by
    cases st with
    | Return v pos =>
      cases v with
      | some ev =>
        cases ev with
        | Name y p =>
          obtain ⟨g1, g2, g3, g4⟩ := vis_of (show visB X.N X.env.scope i y = true from h)
          exact s_retO g1 g2 g3 g4
        | _ => exact absurd h Bool.false_ne_true
      | none => exact absurd h Bool.false_ne_true
    | _ => exact absurd h Bool.false_ne_true
  | .retN, W, T, X, st, k, h => by
    cases st with
    | Return v pos =>
      cases v with
      | none => exact s_retN
      | some ev => exact absurd h Bool.false_ne_true
    | _ => exact absurd h Bool.false_ne_true
  | .ite c a b, W, T, X, st, k, h => by
    cases st with
    | If t x y pos =>
      have h : (tOk c && chkE (T.bb true) X.N X.env.scope c t && chkSs T X.N X.env.scope a x && chkSs T X.N X.env.scope b y) = true := h
      simp only [Bool.and_eq_true] at h
      obtain ⟨⟨⟨h1, h2⟩, h3⟩, h4⟩ := h
      exact s_ite ((okE c W X t (k.c true) h2).pt h1) (okSs a W T X x k h3) (okSs b W T X y k h4)
    | _ => exact absurd h Bool.false_ne_true
  | .fr bb g it b, W, T, X, st, k, h => by
    cases st with
    | For tg iter body els pos =>
      cases els with
      | nil =>
        have h : (!T.hot && chkG X.N X.env.scope g tg && notSet iter && (chkIt (T.bb bb) X.N X.env.scope it iter && (!it.isEn || isTup tg)) && chkSs T X.N X.env.scope b body) = true := h
        rw [Bool.and_eq_true, Bool.and_eq_true, Bool.and_eq_true, Bool.and_eq_true, Bool.and_eq_true, Bool.not_eq_true'] at h
        obtain ⟨⟨⟨⟨h0, h1⟩, h2⟩, h3⟩, h4⟩ := h
        cases bb with
        | false => exact s_for k.own ((k.c false).calm h0) (okIt it W X iter tg (k.c false) h3.1 (en_of h3.2)) (okG (k.c false) h0 k.tgt h1) (okSs b W T X body k h4) (fold_of h2)
        | true => exact s_forB k.own ((k.c true).calm h0) (okIt it W X iter tg (k.c true) h3.1 (en_of h3.2)) (okG (k.c true) h0 k.tgt h1) (okSs b W T X body k h4) (fold_of h2)
      | cons _ _ => exact absurd h Bool.false_ne_true
    | _ => exact absurd h Bool.false_ne_true
  | .whl n c b, W, T, X, st, k, h => by
    cases st with
    | While t body els pos =>
      cases els with
      | nil =>
        have h : (!T.hot && tOk c && chkE (T.bb true) X.N X.env.scope c t && chkSs T X.N X.env.scope b body) = true := h
        simp only [Bool.and_eq_true] at h
        obtain ⟨⟨⟨h0, h1⟩, h2⟩, h3⟩ := h
        exact s_while k.own ((okE c W X t (k.c true) h2).pt h1) (okSs b W T X body k h3)
      | cons _ _ => exact absurd h Bool.false_ne_true
    | _ => exact absurd h Bool.false_ne_true
  | .pass, W, T, X, st, k, h => by
    cases st with
    | Pass pos => exact s_pass
    | _ => exact absurd h Bool.false_ne_true
  | .brk, W, T, X, st, k, h => by
    cases st with
    | Break pos => exact s_brk
    | _ => exact absurd h Bool.false_ne_true
  | .cont, W, T, X, st, k, h => by
    cases st with
    | Continue pos => exact s_cont
    | _ => exact absurd h Bool.false_ne_true
theorem okSs : ∀ (ss : Ss) (W : WX) (T : Tb) (X : Cx) (sts : List Stmt), Cst rc P A W T X → chkSs T X.N X.env.scope ss sts = true → PSs X sts (tSs P rc A X.K W ss)
  | .nil, W, T, X, sts, k, h => by
    cases sts with
    | nil => exact ss_nil
    | cons _ _ => exact absurd h Bool.false_ne_true
  | .cons s ss, W, T, X, sts, k, h => by
    by_cases hf : ∃ i, s = .frz i
    · obtain ⟨i, rfl⟩ := hf
      exact ss_frz (okSs ss W T X sts k (by cases sts <;> exact h))
    · cases sts with
      | nil => cases s <;> first | exact absurd h Bool.false_ne_true | exact absurd ⟨_, rfl⟩ hf
      | cons st sts =>
        have h : (chkS T X.N X.env.scope s st && chkSs T X.N X.env.scope ss sts) = true := by
          cases s <;> first | exact h | exact absurd ⟨_, rfl⟩ hf
        simp only [Bool.and_eq_true] at h
        exact ss_cons (okS s W T X st k h.1) (okSs ss W T X sts k h.2)
theorem okHs : ∀ (hs : Hs) (T : Tb) (X : Cx) (hds : List ExceptHandler), (∀ a pn, Cst rc P A W0 { T with hot := true } (X.suite a pn) ∧ ∀ j x, T.xc j = some x → XcOk X (A.xc j) x) → chkHs T X.N X.env.scope hs hds = true → HdT X hds (hsL P rc A X.K hs)
  | .nil, T, X, hds, k, h => by
    cases hds with
    | nil => exact .nil
    | cons _ _ => exact absurd h Bool.false_ne_true
  | .cons j b hs, T, X, hds, k, h => by
    cases hds with
    | nil => exact absurd h Bool.false_ne_true
    | cons hd hds =>
      cases hd with
      | ExceptHandler ty nm su p =>
        cases ty with
        | none => exact absurd h Bool.false_ne_true
        | some ty =>
          cases ty with
          | Name x np =>
            cases nm with
            | some _ => exact absurd h Bool.false_ne_true
            | none =>
              cases su with
              | nil => exact absurd h Bool.false_ne_true
              | cons b0 su =>
                have h : (decide (T.xc j = some x) && glB X.env.scope x && !dbg x && chkSs { T with hot := true } X.N X.env.scope b (b0 :: su) && chkHs T X.N X.env.scope hs hds) = true := h
                simp only [Bool.and_eq_true, decide_eq_true_eq, Bool.not_eq_true'] at h
                obtain ⟨⟨⟨⟨h1, h2⟩, h3⟩, h4⟩, h5⟩ := h
                exact .one ⟨gl_of h2, h3, .inl ((k 0 []).2 j x h1).mg⟩ (fun a oe cls d pn => okSs b W0 { T with hot := true } (X.suite a ((a, oe) :: pn)) (b0 :: su) (k a _).1 h4) (okHs hs T X hds k h5)
          | _ => exact absurd h Bool.false_ne_true
  | .two i j b hs, T, X, hds, k, h => by
    cases hds with
    | nil => exact absurd h Bool.false_ne_true
    | cons hd hds =>
      cases hd with
      | ExceptHandler ty nm su p =>
        cases ty with
        | none => exact absurd h Bool.false_ne_true
        | some ty =>
          cases ty with
          | Tuple es kk tp =>
            cases es with
            | nil => exact absurd h Bool.false_ne_true
            | cons e1 es =>
              cases e1 with
              | Name x np =>
                cases es with
                | nil => exact absurd h Bool.false_ne_true
                | cons e2 es =>
                  cases e2 with
                  | Name y np2 =>
                    cases es with
                    | cons _ _ => exact absurd h Bool.false_ne_true
                    | nil =>
                      cases nm with
                      | some _ => exact absurd h Bool.false_ne_true
                      | none =>
                        cases su with
                        | nil => exact absurd h Bool.false_ne_true
                        | cons b0 su =>
                          have h : (decide (T.xc i = some x) && glB X.env.scope x && !dbg x && (decide (T.xc j = some y) && glB X.env.scope y && !dbg y) && chkSs { T with hot := true } X.N X.env.scope b (b0 :: su) && chkHs T X.N X.env.scope hs hds) = true := h
                          simp only [Bool.and_eq_true, decide_eq_true_eq, Bool.not_eq_true'] at h
                          obtain ⟨⟨⟨⟨⟨h1, h2⟩, h3⟩, ⟨h4, h5⟩, h6⟩, h7⟩, h8⟩ := h
                          exact .two ⟨gl_of h2, h3, .inl ((k 0 []).2 i x h1).mg⟩ ⟨gl_of h5, h6, .inl ((k 0 []).2 j y h4).mg⟩ (fun a oe cls d pn => okSs b W0 { T with hot := true } (X.suite a ((a, oe) :: pn)) (b0 :: su) (k a _).1 h7) (okHs hs T X hds k h8)
                  | _ => exact absurd h Bool.false_ne_true
              | _ => exact absurd h Bool.false_ne_true
          | _ => exact absurd h Bool.false_ne_true
end
end
/-! ### defs -/
/-- a def of the row and its compact text -/
structure DefR (K : PySem.W.Frag) (mg : Str → Option Value) (A : Adr) (T : Tb) (P : Pg) (f : Nat) (fdc : Fd) (N ps : List Str) (nm qual : Str) (params : Arguments) (body : List Stmt) (scope : Scope) (fd : FuncData) : Prop where
  pg : P.fn f = some fdc
  fun_ : FunD K nm qual params body scope [] [] (A.fn f) fd
  sc : FnScope N ps scope
  bn : Binds K fd ps []
  np : fdc.np = ps.length
  ns : fdc.ns = N.length
  chk : chkSs T N scope fdc.body body = true
/-- the module's facts -/
structure Mo (K : PySem.W.Frag) (mg : Str → Option Value) (A : Adr) (T : Tb) (P : Pg) : Prop where
  df : ∀ (f : Nat), (P.fn f).isSome = true → ∃ fdc N ps nm qual params body scope fd, DefR K mg A T P f fdc N ps nm qual params body scope fd
  nm : ∀ (f : Nat) (x : Str), T.fn f = some x → (P.fn f).isSome = true ∧ mg x = some (.ref (A.fn f))
  gv : ∀ x, T.gv x = true → ∀ d, P.gv x = some d → ∀ b, GvOk (A.b b) K mg x d
  no : ∀ x ∈ bNames, mg x = none
  xc : ∀ k x, T.xc k = some x → mg x = some (.ref (A.xc k)) ∧ PySem.W.excIn K (A.xc k) He.veBase "ValueError.__new__" = true ∧ PySem.W.keepIn K (.ref (A.xc k)) = true ∧ PySem.W.subIn K (.ref (A.xc k)) (.type "BaseException") = some true ∧ PySem.W.typeIn K (.ref (A.xc k)) = some (.type "type")
  hot : T.hot = false
  fld : ∀ x, T.fld x = true → ∀ c, (P.ini c).isSome = true → Cls K (A.cl c) ∧ NoAttr K (A.cl c) x
  mt : ∀ m c f, P.mt c m = some f → (P.fn f).isSome = true ∧ Cls K (A.cl c) ∧ Meth K (A.cl c) m (A.fn f)
  cls : ∀ c x, T.cls c = some x → mg x = some (.ref (A.cl c)) ∧ ∃ f, P.ini c = some f ∧ (P.fn f).isSome = true ∧ Mk K (A.cl c) (A.fn f)
  sub : ∀ k j b, P.sub j k = some b → PySem.W.exmOne K (.ref (A.xc k)) (.ref (A.xc j)) = some b
section
variable {A : Adr} {K : PySem.W.Frag} {M M' : List Addr} {H H' H0 : Hp} {S S' : Sto}
/-! ### what is new in the store, forgotten -/
mutual
theorem RD.back {N : List Addr} (e : M' = M ++ N) : ∀ {d : D} {v v0 : V}, RD A K M H d v0 → RD A K M' H' d v → RD A K M H' d v
  | _, _, _, .non, .non => .non
  | _, _, _, .bl b, .bl _ => .bl b
  | _, _, _, .int i, .int _ => .int i
  | _, _, _, .str x, .str _ => .str x
  | _, _, _, .tup _ r0, .tup h r => .tup h (RDs.back e r0 r)
  | _, _, _, .tpk _ r0, .tpk h r => .tpk h (RDs.back e r0 r)
  | _, _, _, .lsk _ r0, .lsk h r => .lsk h (RDs.back e r0 r)
  | _, _, _, .lst _ r0, .lst h r => .lst ⟨h.1, fun z => h.2.1 (by rw [e]; exact List.mem_append_left _ z), h.2.2⟩ (RDs.back e r0 r)
  | _, _, _, .dct _ _ _ _ r0, .dct h hl n f r => .dct h hl (fun z => n (by rw [e]; exact List.mem_append_left _ z)) f (RDs.back e r0 r)
  | _, _, _, .ref h0, .ref h => .ref (by
    rw [e, List.getElem?_append_left (List.getElem?_eq_some_iff.mp h0).1] at h
    exact h)
  | _, _, _, .fn f, .fn _ => .fn f
  | _, _, _, .dck _, .dck h => .dck h
theorem RDs.back {N : List Addr} (e : M' = M ++ N) : ∀ {ds : List D} {vs v0 : List V}, RDs A K M H ds v0 → RDs A K M' H' ds vs → RDs A K M H' ds vs
  | _, _, _, .nil, .nil => .nil
  | _, _, _, .cons h0 r0, .cons h r => .cons (RD.back e h0 h) (RDs.back e r0 r)
end
theorem RKs.back {κ : Type} {N : List Addr} (e : M' = M ++ N) : ∀ {ds : List (κ × D)} {vs v0 : List (κ × V)}, RKs A K M H ds v0 → RKs A K M' H' ds vs → RKs A K M H' ds vs
  | _, _, _, .nil, .nil => .nil
  | _, _, _, .cons h0 r0, .cons h r => .cons (RD.back e h0 h) (RKs.back e r0 r)
mutual
theorem RD.noR {N : List Addr} (e : M' = M ++ N) : ∀ {d : D} {v : V}, Pl.noR d = true → RD A K M' H d v → RD A K M H d v
  | _, _, _, .non => .non
  | _, _, _, .bl b => .bl b
  | _, _, _, .int i => .int i
  | _, _, _, .str x => .str x
  | _, _, q, .tup h r => .tup h (RDs.noR e q r)
  | _, _, q, .tpk h r => .tpk h (RDs.noR e q r)
  | _, _, q, .lsk h r => .lsk h (RDs.noR e q r)
  | _, _, q, .lst h r => .lst ⟨h.1, fun z => h.2.1 (by rw [e]; exact List.mem_append_left _ z), h.2.2⟩ (RDs.noR e q r)
  | _, _, q, .dct h hl n f r => .dct h hl (fun z => n (by rw [e]; exact List.mem_append_left _ z)) f (RDs.noR e q r)
  | _, _, q, .ref h => by cases q
  | _, _, _, .fn f => .fn f
  | _, _, _, .dck h => .dck h
theorem RDs.noR {N : List Addr} (e : M' = M ++ N) : ∀ {ds : List D} {vs : List V}, noRs ds = true → RDs A K M' H ds vs → RDs A K M H ds vs
  | _, _, _, .nil => .nil
  | _, _, q, .cons h r => by
    have q := Bool.and_eq_true_iff.mp (show (Pl.noR _ && noRs _) = true from q)
    exact .cons (RD.noR e q.1 h) (RDs.noR e q.2 r)
end
theorem RR.noR {N : List Addr} (e : M' = M ++ N) {r : R} {v : V} (q : rNoR r = true) (h : RR A K M' H H0 r v) : RR A K M H H0 r v := by
  cases r with
  | v d => exact RD.noR e q h
  | l ds =>
    obtain ⟨a, vs, e1, n0, n, f, ha, r⟩ := h
    exact ⟨a, vs, e1, n0, fun z => n (by rw [e]; exact List.mem_append_left _ z), f, ha, RDs.noR (A := A.w (a :: A.F)) e q r⟩
  | d ds => cases q
  | t ds => cases q
theorem HR.back (h0 : HR A K M H S) (s : Stp K M H M' H') (h : HR A K M' H' S') (e : S'.take S.length = S) : HR A K M H' S := by
  obtain ⟨N, eM, _⟩ := s.ext
  refine ⟨h0.len, h0.nd, fun i o ho => ?_⟩
  have hi : i < S.length := (List.getElem?_eq_some_iff.mp ho).1
  have ho' : S'[i]? = some o := by
    rw [← e, List.getElem?_take] at ho
    rw [if_pos hi] at ho
    exact ho
  obtain ⟨a0, e0, q0⟩ := h0.ob i o ho
  obtain ⟨a, e1, q⟩ := h.ob i o ho'
  have ea : a = a0 := by
    have := s.at_ e0
    rw [e1] at this
    exact Option.some.inj this
  subst ea
  refine ⟨a, e0, ?_⟩
  cases o with
  | lst ds =>
    obtain ⟨_, _, _, r0⟩ := q0
    obtain ⟨n, vs, h1, r⟩ := q
    exact ⟨n, vs, h1, RDs.back eM r0 r⟩
  | dk ds =>
    obtain ⟨_, _, _, r0⟩ := q0
    obtain ⟨n, vs, h1, r⟩ := q
    exact ⟨n, vs, h1, RKs.back eM r0 r⟩
  | dt ds =>
    obtain ⟨_, _, _, r0⟩ := q0
    obtain ⟨n, vs, h1, r⟩ := q
    exact ⟨n, vs, h1, RKs.back eM r0 r⟩
  | ins c ds =>
    obtain ⟨_, _, _, _, r0⟩ := q0
    obtain ⟨n, dx, vs, h1, r⟩ := q
    exact ⟨n, dx, vs, h1, RKs.back eM r0 r⟩
  | fz ds =>
    obtain ⟨_, _, _, _, r0⟩ := q0
    obtain ⟨n, dx, vs, h1, r⟩ := q
    exact ⟨n, dx, vs, h1, RKs.back eM r0 r⟩
theorem Stp.back (s : Stp K M H M' H') : Stp K M H M H' := ⟨⟨[], by simp, fun _ h => by simp at h⟩, s.keep, s.grow, s.tup, s.frz⟩
end
section
variable {Pr : Program} {w : World} {K : PySem.W.Frag} {mg : Str → Option Value} {base : Heap} {A : Adr} {T : Tb} {P : Pg}
theorem ats_start {M : List Addr} {H : Hp} {N : List Str} {ds : List D} {vs : List V} {S : Sto} (hr : HR A K M H S) (ff : ∀ a ∈ A.F, ∃ o, H a = some o) (r : RDs A K M H ds vs) (n m : Nat) (h1 : n = N.length) (h2 : m = vs.length) :
    AtS A K H [] (L2.start N vs) H (ds.map .v ++ List.replicate (n - m) .un) S M := by
  subst h1 h2
  have get : ∀ {i : Nat} {o : Sl}, o ≠ .un → (ds.map Sl.v ++ List.replicate (N.length - vs.length) Sl.un)[i]? = some o → ∃ d, ds[i]? = some d ∧ o = .v d := fun {i o} ho e => by
    by_cases hi : i < ds.length
    · rw [List.getElem?_append_left (by rw [List.length_map]; exact hi), List.getElem?_map] at e
      cases e1 : ds[i]? with
      | none => rw [e1] at e; cases e
      | some d =>
        rw [e1] at e
        cases e
        exact ⟨d, rfl, rfl⟩
    · rw [List.getElem?_append_right (by rw [List.length_map]; omega), List.getElem?_replicate] at e
      split at e
      · cases e
        exact absurd rfl ho
      · cases e
  exact {
    hr := hr
    len := by
      unfold L2.start
      rw [List.length_append, List.length_append, List.length_map, List.length_map, List.length_replicate, List.length_replicate, r.length]
    at_ := fun i d e => by
      obtain ⟨d', e1, e2⟩ := get (by intro z; cases z) e
      cases e2
      obtain ⟨v, e3, rd⟩ := r.get e1
      refine ⟨v, ?_, RD.sub (fun _ h => h) rd⟩
      unfold L2.start
      rw [List.getElem?_append_left (by rw [List.length_map]; exact (List.getElem?_eq_some_iff.mp e3).1), List.getElem?_map, e3]
      rfl
    ow := fun i ds' e => by
      obtain ⟨d', e1, e2⟩ := get (by intro z; cases z) e
      cases e2
    oi := fun i j ds' es a e => by
      obtain ⟨d', e1, e2⟩ := get (by intro z; cases z) e
      cases e2
    om := fun a m => by simp at m
    ff := ff
    gr := fun _ h => h }
theorem isFst_of {fd : Fd} (h : isFst fd = true) : fd.body = .cons (.ret (.ix (.var 0) (.int 0))) .nil ∧ fd.np = 1 := by
  unfold isFst at h
  split at h
  · next e => exact ⟨e, of_decide_eq_true h⟩
  · cases h
theorem fst_shape {T : Tb} {N : List Str} {sc : Scope} {body : List Stmt} (h : chkSs T N sc (.cons (.ret (.ix (.var 0) (.int 0))) .nil) body = true) :
    ∃ x p1 k p2 p3 p4, body = [.Return (some (.Subscript (.Name x p1) (.Constant (.int 0) k p2) p3)) p4] ∧ visB N sc 0 x = true := by
  cases body with
  | nil => cases h
  | cons st rest =>
    have h : (chkS T N sc (.ret (.ix (.var 0) (.int 0))) st && chkSs T N sc .nil rest) = true := h
    rw [Bool.and_eq_true] at h
    obtain ⟨h1, h2⟩ := h
    cases rest with
    | cons a b => cases h2
    | nil =>
      cases st with
      | Return ov p4 =>
        cases ov with
        | none => cases h1
        | some ev =>
          have h1 : chkE (T.bb true) N sc (.ix (.var 0) (.int 0)) ev = true := h1
          cases ev with
          | Subscript x y p3 =>
            have h1 : (notSlice y && chkE (T.bb true) N sc (.var 0) x && chkE (T.bb true) N sc (.int 0) y) = true := h1
            simp only [Bool.and_eq_true] at h1
            obtain ⟨⟨_, h3⟩, h4⟩ := h1
            cases x with
            | Name x p1 =>
              cases y with
              | Constant c k p2 =>
                cases c with
                | int j =>
                  cases of_decide_eq_true (show decide ((0 : Int) = j) = true from h4)
                  exact ⟨x, p1, k, p2, p3, p4, rfl, h3⟩
                | _ => cases h4
              | _ => cases h4
            | _ => cases h3
          | _ => cases h1
      | _ => cases h1
theorem keyF_def {A' : Around} {f : Nat} {fd0 fdc : Fd} {N ps : List Str} {nm qual : Str} {params : Arguments} {body : List Stmt} {scope : Scope} {fd : FuncData} (hp : P.fn f = some fd0) (hi : isFst fd0 = true) (d : DefR K mg A T P f fdc N ps nm qual params body scope fd) (room : A'.depth < recursionLimit) :
    KeyF Pr w A'.in1.in1 K (A.fn f) := by
  have e0 : fdc = fd0 := Option.some.inj (d.pg.symm.trans hp)
  subst e0
  obtain ⟨e1, e2⟩ := isFst_of hi
  have hc := d.chk
  rw [e1] at hc
  obtain ⟨x, p1, k, p2, p3, p4, rfl, hv⟩ := fst_shape hc
  have hl : ps.length = 1 := by rw [← d.np, e2]
  obtain ⟨h1, h2, h3, h4⟩ := vis_of hv
  have eps : ps = [x] := by
    have q := d.sc.pre
    rw [hl] at q
    cases N with
    | nil => cases h1
    | cons y N' =>
      have : y = x := Option.some.inj h1
      rw [← q, this]
      rfl
  subst eps
  exact keyF_of d.fun_ d.sc d.bn h3 h4 room
open Classical in
theorem fn_def (m : Mo K mg A T P) (hw : A.wd = w) : ∀ (n : Nat) {f : Nat} {fdc : Fd} {N ps : List Str} {nm qual : Str} {params : Arguments} {body : List Stmt} {scope : Scope} {fd : FuncData}, DefR K mg A T P f fdc N ps nm qual params body scope fd → FnOk Pr w K mg base (L2.CX Pr w) (2 * n) (A.fn f) fd ps (SPf A K (callF P n) f)
  | 0, f, fdc, N, ps, nm, qual, params, body, scope, fd, d => by
    refine ⟨fun vs H Q E h => ?_, fun A' outer s H args us vs Q E _ _ _ _ h => ?_⟩
    · obtain ⟨F, ds, S, M, _, _, _, q⟩ := h
      exact q.elim
    · obtain ⟨F, ds, S, M, _, _, _, q⟩ := h
      exact q.elim
  | n + 1, f, fdc, N, ps, nm, qual, params, body, scope, fd, d => by
    have len : ∀ vs H Q E, SPf A K (callF P (n + 1)) f vs H Q E → vs.length = ps.length := fun vs H Q E h => by
      obtain ⟨F, ds, S, M, _, r, _, q⟩ := h
      simp only [callF, d.pg] at q
      by_cases hl : ds.length = fdc.np
      · rw [← r.length, hl, d.np]
      · rw [if_neg hl] at q
        exact q.elim
    refine FunD.ok (k := 2 * n + 1) d.fun_ d.sc len fun cdv A' outer s H vs Q E hr hsp => ?_
    have hlen := len _ _ _ _ hsp
    obtain ⟨F, ds, S, M, hh, r, ff, q⟩ := hsp
    simp only [callF, d.pg] at q
    by_cases hl : ds.length = fdc.np
    · rw [if_pos hl] at q
      have hr2 : Room (2 * n) (A'.deeper (envOfC qual scope s.heap.objs.size (A.fn f) cdv)) := hr.mono (by omega)
      have cok : ∀ b, Cok (callF P n) P (A.b b) (fun cls d _ H => E cls d H) (T.bb b) (cxOf (L2.CX Pr w) Pr w K mg base N qual scope (A.fn f) cdv A' outer s H E) := fun b =>
        { calm := fun _ => rfl
          bw := fun h => h
          wd := hw
          nod := d.sc.nd
          hu := by have := hr.un; show (A'.deeper (envOfC qual scope s.heap.objs.size (A.fn f) cdv)).units + 65 < cLine; omega
          tk := takes_of rfl rfl rfl rfl
          stk := fun _ _ _ _ _ => ⟨rfl, rfl⟩
          fn := fun _ f2 x2 h2 => by
            obtain ⟨g0, g2⟩ := m.nm f2 x2 h2
            obtain ⟨fdc2, N2, ps2, nm2, qual2, params2, body2, scope2, fd2, d2⟩ := m.df f2 g0
            exact ⟨2 * n, fd2, ps2, fn_def m hw n d2, hr2, g2, d2.fun_.kp, d2.bn⟩
          fv := fun _ f2 g0 => by
            obtain ⟨fdc2, N2, ps2, nm2, qual2, params2, body2, scope2, fd2, d2⟩ := m.df f2 g0
            exact ⟨2 * n, fd2, ps2, fn_def m hw n d2, hr2, d2.fun_.kp, d2.bn⟩
          kf := fun _ f2 x2 fd0 h2 hp2 hi2 => by
            obtain ⟨g0, g2⟩ := m.nm f2 x2 h2
            obtain ⟨fdc2, N2, ps2, nm2, qual2, params2, body2, scope2, fd2, d2⟩ := m.df f2 g0
            exact keyF_def (A := A) hp2 hi2 d2 hr2.depth
          gv := fun x hx dd hd => m.gv x hx dd hd b
          no := m.no
          fld := m.fld
          mt := fun _ mm c f2 h2 => by
            obtain ⟨g0, g1, g2⟩ := m.mt mm c f2 h2
            obtain ⟨fdc2, N2, ps2, nm2, qual2, params2, body2, scope2, fd2, d2⟩ := m.df f2 g0
            exact ⟨g1, g2, ⟨2 * n, fd2, ps2, fn_def m hw n d2, hr2, d2.fun_.kp, d2.bn⟩⟩
          mak := fun _ c x h2 => by
            obtain ⟨g0, f2, g1, g2, g3⟩ := m.cls c x h2
            obtain ⟨fdc2, N2, ps2, nm2, qual2, params2, body2, scope2, fd2, d2⟩ := m.df f2 g2
            exact ⟨g0, f2, g1, ⟨g3, 2 * n, fd2, ps2, fn_def m hw n d2, hr, d2.bn⟩⟩ }
      have cst : Cst (callF P n) P A (fun cls d _ H => E cls d H) T (cxOf (L2.CX Pr w) Pr w K mg base N qual scope (A.fn f) cdv A' outer s H E) :=
        ⟨cok, passes_of rfl, fun x hx => ⟨hx, .inl rfl⟩, d.sc.kind, fun k x hk => by
          obtain ⟨g1, g2, g3, g4, g5⟩ := m.xc k x hk
          exact ⟨g1, g2, g3, g4, g5⟩, rfl, rfl, m.sub⟩
      have x0 : AtS ((A.b false).w F) K H [] (L2.start N vs) H (ds.map .v ++ List.replicate (fdc.ns - fdc.np) .un) S M := ats_start hh ff r fdc.ns fdc.np d.ns (by rw [d.np, hlen])
      have x1 : AtS (A.w F) K H [] (L2.start N vs) H (ds.map .v ++ List.replicate (fdc.ns - fdc.np) .un) S M := ats_start (HR.free (A := (A.b false).w F) hh) ff (RDs.sub (A := (A.b false).w F) (fun _ h => h) r) fdc.ns fdc.np d.ns (by rw [d.np, hlen])
      refine ⟨tSs P (callF P n) A K (fun cls d _ H => E cls d H) fdc.body, okSs fdc.body _ _ _ body cst d.chk, F, H, [], _, S, M, x1, ?_⟩
      generalize evSs P (callF P n) fdc.body (ds.map .v ++ List.replicate (fdc.ns - fdc.np) .un) S = o at q
      have hrF : ∀ {M' : List Addr} {H' : Hp} {S' : Sto}, HR (A.w F) K M' H' S' → HR ((A.b false).w F) K M' H' S' := fun h => HR.free (A := A.w F) h
      cases htr : fdc.tr with
      | false =>
        rw [htr] at q
        cases o with
        | ex k S' => exact q.elim
        | no => exact q.elim
        | ok fl S' =>
          cases fl with
          | next ρ' => exact fun σ' H' M' O' s' x' => q .non H' M' s'.done (hrF x'.hr) .non
          | brk ρ' => exact q.elim
          | cont ρ' => exact q.elim
          | ret rr => exact fun v H' M' O' s' x' r' => q v H' M' s'.done (hrF x') (RR.bw (A := A.w F) (b := false) r')
          | raise k ρ' => exact fun σ' H' M' O' s' x' => q H' M' s'.done (hrF x'.hr)
      | true =>
        rw [htr] at q
        cases o with
        | ex k S' => exact q.elim
        | no => exact q.elim
        | ok fl S' =>
          cases fl with
          | next ρ' =>
            have q : (match (if S'.take S.length = S then Pl.O.ok (R.v .non) S else .no) with
              | .ok r S' => ∀ v H' M', Stp K M H M' H' → HR ((A.b false).w F) K M' H' S' → RR ((A.b false).w F) K M' H' H r v → Q v H'
              | .ex k S' => ∀ H' M', Stp K M H M' H' → HR ((A.b false).w F) K M' H' S' → E (.ref (A.xc k)) none H'
              | .no => False) := q
            by_cases ht : S'.take S.length = S
            · rw [if_pos ht] at q
              exact fun σ' H' M' O' s' x' => q .non H' M s'.done.back (HR.back hh s'.done (hrF x'.hr) ht) .non
            · rw [if_neg ht] at q
              exact q.elim
          | brk ρ' => exact q.elim
          | cont ρ' => exact q.elim
          | ret rr =>
            have q : (match (if S'.take S.length = S ∧ rNoR rr = true then Pl.O.ok rr S else .no) with
              | .ok r S' => ∀ v H' M', Stp K M H M' H' → HR ((A.b false).w F) K M' H' S' → RR ((A.b false).w F) K M' H' H r v → Q v H'
              | .ex k S' => ∀ H' M', Stp K M H M' H' → HR ((A.b false).w F) K M' H' S' → E (.ref (A.xc k)) none H'
              | .no => False) := q
            by_cases ht : S'.take S.length = S ∧ rNoR rr = true
            · rw [if_pos ht] at q
              refine fun v H' M' O' s' x' r' => ?_
              obtain ⟨N', eM, _⟩ := s'.done.ext
              exact q v H' M s'.done.back (HR.back hh s'.done (hrF x') ht.1) (RR.noR eM ht.2 (RR.bw (A := A.w F) (b := false) r'))
            · rw [if_neg ht] at q
              exact q.elim
          | raise k ρ' =>
            have q : (match (if S'.take S.length = S then (Pl.O.ex k S : Pl.O R) else .no) with
              | .ok r S' => ∀ v H' M', Stp K M H M' H' → HR ((A.b false).w F) K M' H' S' → RR ((A.b false).w F) K M' H' H r v → Q v H'
              | .ex k S' => ∀ H' M', Stp K M H M' H' → HR ((A.b false).w F) K M' H' S' → E (.ref (A.xc k)) none H'
              | .no => False) := q
            by_cases ht : S'.take S.length = S
            · rw [if_pos ht] at q
              exact fun σ' H' M' O' s' x' => q H' M s'.done.back (HR.back hh s'.done (hrF x'.hr) ht)
            · rw [if_neg ht] at q
              exact q.elim
    · rw [if_neg hl] at q
      exact q.elim
end
end Pl
/-! The module's constants: a check of the written part. -/
namespace Pl
open PySem PySem.Spec
open PyProof.Rows hiding St
open L2
mutual
theorem gvB_ok {A : Adr} {K : PySem.W.Frag} : ∀ {d : D} {u : Value}, gvB A.fn K d u = true → ∃ v, RelV v u ∧ ∀ F M H, RD (A.w F) K M H d v
  | .non, u, h => by
    cases u with
    | none => exact ⟨.non, rfl, fun _ _ _ => .non⟩
    | _ => exact absurd (by simpa only [gvB] using h) Bool.false_ne_true
  | .bl b, u, h => by
    cases u with
    | bool c =>
      obtain rfl : b = c := of_decide_eq_true (by simpa only [gvB] using h)
      exact ⟨.bl b, rfl, fun _ _ _ => .bl b⟩
    | _ => exact absurd (by simpa only [gvB] using h) Bool.false_ne_true
  | .int i, u, h => by
    cases u with
    | int j t =>
      obtain rfl : i = j := of_decide_eq_true (by simpa only [gvB] using h)
      exact ⟨.int i, ⟨t, rfl⟩, fun _ _ _ => .int i⟩
    | _ => exact absurd (by simpa only [gvB] using h) Bool.false_ne_true
  | .str x, u, h => by
    cases u with
    | str y t =>
      obtain rfl : x = y := of_decide_eq_true (by simpa only [gvB] using h)
      exact ⟨.str x, ⟨t, rfl⟩, fun _ _ _ => .str x⟩
    | _ => exact absurd (by simpa only [gvB] using h) Bool.false_ne_true
  | .fn f, u, h => by
    cases u with
    | ref a =>
      obtain rfl : a = A.fn f := of_decide_eq_true (by simpa only [gvB] using h)
      exact ⟨.ref _, rfl, fun _ _ _ => .fn f⟩
    | _ => exact absurd (by simpa only [gvB] using h) Bool.false_ne_true
  | .tpk ds, u, h => by
    cases u with
    | ref a =>
      simp only [gvB] at h
      cases e : K.lookup a with
      | none => rw [e] at h; cases h
      | some o =>
        rw [e] at h
        obtain ⟨oc, od, dt, osl⟩ := o
        cases oc with
        | type c =>
          cases dt with
          | seq its n =>
            simp only [Bool.and_eq_true, decide_eq_true_eq] at h
            obtain ⟨h1, h2, h3⟩ := h
            obtain ⟨vs, g1, g2⟩ := gvsB_ok h3
            subst h1
            exact ⟨.ref a, rfl, fun F M H => .tpk ⟨_, its, n, e, rfl, rfl, h2, g1⟩ (g2 F M H)⟩
          | _ => cases h
        | _ => cases h
    | _ => exact absurd (by simpa only [gvB] using h) Bool.false_ne_true
  | .lsk ds, u, h => by
    cases u with
    | ref a =>
      simp only [gvB] at h
      cases e : K.lookup a with
      | none => rw [e] at h; cases h
      | some o =>
        rw [e] at h
        obtain ⟨oc, od, dt, osl⟩ := o
        cases oc with
        | type c =>
          cases od with
          | none =>
            cases dt with
            | seq its n =>
              simp only [Bool.and_eq_true, decide_eq_true_eq] at h
              obtain ⟨h1, h2, h3⟩ := h
              obtain ⟨vs, g1, g2⟩ := gvsB_ok h3
              subst h1
              exact ⟨.ref a, rfl, fun F M H => .lsk ⟨_, its, n, e, rfl, rfl, rfl, h2, g1⟩ (g2 F M H)⟩
            | _ => cases h
          | some _ => cases dt <;> cases h
        | _ => cases h
    | _ => exact absurd (by simpa only [gvB] using h) Bool.false_ne_true
  | .tup _, _, h => by exact absurd (by simpa only [gvB] using h) Bool.false_ne_true
  | .lst _, _, h => by exact absurd (by simpa only [gvB] using h) Bool.false_ne_true
  | .dct _ _, _, h => by exact absurd (by simpa only [gvB] using h) Bool.false_ne_true
  | .ref _, _, h => by exact absurd (by simpa only [gvB] using h) Bool.false_ne_true
  | .dck _ _, _, h => by exact absurd (by simpa only [gvB] using h) Bool.false_ne_true
theorem gvsB_ok {A : Adr} {K : PySem.W.Frag} : ∀ {ds : List D} {us : List Value}, gvsB A.fn K ds us = true → ∃ vs, Vals vs us ∧ ∀ F M H, RDs (A.w F) K M H ds vs
  | [], [], _ => ⟨[], .nil, fun _ _ _ => .nil⟩
  | d :: ds, u :: us, h => by
    simp only [gvsB, Bool.and_eq_true] at h
    obtain ⟨v, h1, h2⟩ := gvB_ok h.1
    obtain ⟨vs, h3, h4⟩ := gvsB_ok h.2
    exact ⟨v :: vs, .cons h1 h3, fun F M H => .cons (h2 F M H) (h4 F M H)⟩
  | [], _ :: _, h => by exact absurd (by simpa only [gvsB] using h) Bool.false_ne_true
  | _ :: _, [], h => by exact absurd (by simpa only [gvsB] using h) Bool.false_ne_true
end
/-! ### dicts of the top -/
theorem wv_ok {A : Adr} {d : D} {u : Value} (h : wvB A.fn d u = true) : ∃ v, RelV v u ∧ WV A d v := by
  cases d with
  | int i =>
    cases u with
    | int j t =>
      obtain rfl : i = j := of_decide_eq_true h
      exact ⟨.int i, ⟨t, rfl⟩, rfl⟩
    | _ => cases h
  | str i =>
    cases u with
    | str j t =>
      obtain rfl : i = j := of_decide_eq_true h
      exact ⟨.str i, ⟨t, rfl⟩, rfl⟩
    | _ => cases h
  | fn f =>
    cases u with
    | ref a =>
      obtain rfl : a = A.fn f := of_decide_eq_true h
      exact ⟨.ref _, rfl, rfl⟩
    | _ => cases h
  | _ => cases u <;> cases h
theorem ent_ok {A : Adr} : ∀ {ks : List Str} {ds : List D} {es : List DictEntry}, entB A.fn ks ds es = true → ks.length = ds.length ∧ es.any (·.refKey) = false ∧ ∀ z, match getA z (ks.zip ds) with
    | some d => ∃ e v, es.find? (·.key.isStr z) = some e ∧ RelV v e.val ∧ WV A d v
    | none => es.find? (·.key.isStr z) = none
  | [], [], [], _ => ⟨rfl, rfl, fun z => rfl⟩
  | k :: ks, d :: ds, e :: es, h => by
    have h : (keyIs k e.key && (wvB A.fn d e.val && entB A.fn ks ds es)) = true := h
    simp only [Bool.and_eq_true] at h
    obtain ⟨h1, h2, h3⟩ := h
    obtain ⟨g1, g2, g3⟩ := ent_ok h3
    obtain ⟨hh, key, val⟩ := e
    cases key with
    | str x t =>
      obtain rfl : x = k := of_decide_eq_true h1
      refine ⟨by rw [List.length_cons, List.length_cons, g1], by rw [List.any_cons, g2]; rfl, fun z => ?_⟩
      have e0 : (x :: ks).zip (d :: ds) = (x, d) :: ks.zip ds := rfl
      rw [e0]
      unfold getA
      by_cases e : x = z
      · subst e
        rw [if_pos rfl]
        obtain ⟨v, r1, r2⟩ := wv_ok h2
        refine ⟨⟨hh, .str x t, val⟩, v, ?_, r1, r2⟩
        rw [List.find?_cons]
        have : (Value.str x t).isStr x = true := by simp [Value.isStr]
        simp only [this]
      · rw [if_neg e, List.find?_cons]
        have : (Value.str x t).isStr z = false := by simp [Value.isStr, e]
        simp only [this]
        exact g3 z
    | _ => cases h1
  | [], [], _ :: _, h => by cases h
  | [], _ :: _, _, h => by cases h
  | _ :: _, [], _, h => by cases h
  | _ :: _, _ :: _, [], h => by cases h
theorem dck_ok {A : Adr} {K : PySem.W.Frag} {a : Addr} {ks : List Str} {ds : List D} (h : dckB A.fn K a ks ds = true) (hk : ∃ es n, KDict K A.wd a es n) : WD A K a ks ds := by
  unfold dckB at h
  cases q : K.lookup a with
  | none => rw [q] at h; cases h
  | some o =>
    obtain ⟨oc, od, dt, osl⟩ := o
    rw [q] at h
    cases dt with
    | dict es n =>
      obtain ⟨g1, g2, g3⟩ := ent_ok (A := A) (show entB A.fn ks ds es.toList = true from h)
      refine ⟨g1, hk, fun z => ?_⟩
      have := g3 z
      unfold PySem.W.nsIn
      rw [q]
      cases e : getA z (ks.zip ds) with
      | none =>
        rw [e] at this
        simp only [this, g2]
        rfl
      | some d =>
        rw [e] at this
        obtain ⟨en, v, f1, f2, f3⟩ := this
        simp only [f1]
        exact ⟨en.val, v, rfl, f2, f3⟩
    | _ => cases h
/-- the constants, all -/
theorem gvAll_ok {A : Adr} {K : PySem.W.Frag} {h : Heap} {mg : Str → Option Value} {l : List (Str × D)} (X : K.In h) (G : h.Ns mainGlobals mg) (hk : ∀ p ∈ l, (match p.2 with
    | .dck _ _ => true
    | _ => false) = true → ∃ es n, KDict K A.wd (He.ga K p.1) es n) (c : gvAll A.fn K l = true) : ∀ p ∈ l, GvOk A K mg p.1 p.2 := by
  intro p hp
  have c1 := List.all_eq_true.mp c p hp
  have hk := hk p hp
  cases e : PySem.W.nsIn K mainGlobals p.1 with
  | none => rw [e] at c1; cases c1
  | some r =>
    rw [e] at c1
    cases r with
    | none => cases c1
    | some u =>
      obtain ⟨x, d⟩ := p
      cases d with
      | dck ks ds =>
        cases u with
        | ref a =>
          have c1 : (decide (a = He.ga K x) && dckB A.fn K a ks ds) = true := c1
          simp only [Bool.and_eq_true, decide_eq_true_eq] at c1
          obtain ⟨rfl, c2⟩ := c1
          exact ⟨_, .ref _, PySem.W.mg_of X G e, rfl, fun F M H => .dck (dck_ok (A := A.w F) c2 (hk rfl))⟩
        | _ => cases c1
      | _ =>
        obtain ⟨v, h1, h2⟩ := gvB_ok (A := A) c1
        exact ⟨u, v, PySem.W.mg_of X G e, h1, h2⟩
end Pl
/-! The interpreter step by step: rows for rewriting. -/
namespace Pl
noncomputable section
open PySem (Str PyData sizeLine)
section
variable {P : Pg} {rc : Nat → List D → Sto → O R} {r : Loc} {S : Sto}
def vO (o : Option Sl) (S : Sto) : O R := match o with
  | some (.v d) => .ok (.v d) S
  | _ => .no
def wO (o : Option Sl) (S : Sto) : O R := match o with
  | some (.v d) => .ok (.v d) S
  | some (.own ds) => .ok (.v (.lst ds)) S
  | _ => .no
def cO (o : Option Bool) (S : Sto) : O R := match o with
  | some b => .ok (.v (.bl b)) S
  | none => .no
def chO (o : Option Bool) (f : O R) (S : Sto) : O R := match o with
  | some true => f
  | some false => .ok (.v (.bl false)) S
  | none => .no
def tuO (o : Option Bool) (x : R) (f : O R) (S : Sto) : O R := match o with
  | some true => .ok x S
  | some false => f
  | none => .no
def tyO (t : Option String) (ts : List Tn) (S : Sto) : O R := match t with
  | some t => .ok (.v (.bl (ts.any (isiB t)))) S
  | none => .no
def iO {α : Type} (o : Option Int) (f : Int → O α) : O α := match o with
  | some i => f i
  | none => .no
def nO {α : Type} (o : Option Nat) (f : Nat → O α) : O α := match o with
  | some i => f i
  | none => .no
def gO {α : Type} (o : Option Loc) (f : Loc → Sto → O α) (S : Sto) : O α := match o with
  | some r => f r S
  | none => .no
def rgO (o : Option Int) (S : Sto) : O Src := match o with
  | some j => if -(2 ^ 62) ≤ j ∧ j < 2 ^ 62 then .ok ⟨[], rangeD 0 j, true⟩ S else .no
  | none => .no
def rhO (o p : Option Int) (S : Sto) : O Src := match o, p with
  | some i, some j => if -(2 ^ 62) ≤ i ∧ i < 2 ^ 62 ∧ -(2 ^ 62) ≤ j ∧ j < 2 ^ 62 then .ok ⟨[], rangeD i j, true⟩ S else .no
  | _, _ => .no
def enO (x : R) (S : Sto) : O Src := match x with
  | .v (.tup ds) => .ok ⟨[], enumD 0 ds, false⟩ S
  | x => match lsOf S x, srcOf S x with
    | some _, some sr => .ok ⟨sr.keep, enumD 0 sr.items, false⟩ S
    | _, _ => .no
def apO (o : Option Sl) (f : List D → O Flow) : O Flow := match o with
  | some (.own ds) => f ds
  | _ => .no
def rfO {α : Type} (x : R) (f : Nat → O α) : O α := match x with
  | .v (.ref a) => f a
  | _ => .no
def stO {α : Type} (o : Option Sto) (f : Sto → O α) : O α := match o with
  | some S => f S
  | none => .no
def roO (o : Option Sl) (S : Sto) : O Flow := match o with
  | some (.own ds) => .ok (.ret (.l ds)) S
  | some (.v d) => .ok (.ret (.v d)) S
  | _ => .no
def trO (o : O Flow) (f : Nat → Loc → Sto → O Flow) : O Flow := match o with
  | .ok (.raise k r) S => f k r S
  | o => o
def sqO (o : O Flow) (f : Loc → Sto → O Flow) : O Flow := match o with
  | .ok (.next r) S => f r S
  | o => o
def txO (b : Bool) (k : Nat) (r : Loc) (S : Sto) (l : Nat) : O Flow := if b = true then .ok (.raise k r) S else .ok (.raise l r) S
theorem vO_v (d : D) : vO (some (.v d)) S = .ok (.v d) S := (rfl)
theorem wO_v (d : D) : wO (some (.v d)) S = .ok (.v d) S := (rfl)
theorem wO_o (ds : List D) : wO (some (.own ds)) S = .ok (.v (.lst ds)) S := (rfl)
theorem bind_ok {α β : Type} (a : α) (S : Sto) (f : α → Sto → O β) : (O.ok a S).bind f = f a S := (rfl)
theorem bind_ex {α β : Type} (k : Nat) (S : Sto) (f : α → Sto → O β) : (O.ex k S : O α).bind f = .ex k S := (rfl)
theorem of_some {α : Type} (a : α) : O.of S (some a) = .ok a S := (rfl)
theorem bool_ok (b : Bool) : boolO (.ok (.v (.bl b)) S) = .ok b S := (rfl)
theorem bool_ex (k : Nat) : boolO (.ex k S) = .ex k S := (rfl)
theorem val_v (d : D) : valO (.ok (.v d) S) = .ok d S := (rfl)
theorem val_l (ds : List D) : valO (.ok (.l ds) S) = .ok (.lst ds) S := (rfl)
theorem val_d (kvs : List (Key × D)) : valO (.ok (.d kvs) S) = .ok (.dct (kvs.map (·.1)) (kvs.map (·.2))) S := (rfl)
theorem val_ex (k : Nat) : valO (.ex k S) = .ex k S := (rfl)
theorem flow_ok {α : Type} (a : α) (f : α → Sto → O Flow) : flowO r (.ok a S) f = f a S := (rfl)
theorem flow_ex {α : Type} (k : Nat) (f : α → Sto → O Flow) : flowO r (.ex k S) f = .ok (.raise k r) S := (rfl)
theorem cO_some (b : Bool) : cO (some b) S = .ok (.v (.bl b)) S := (rfl)
theorem cO_of (o : Option Bool) : O.of S (o.map fun b => R.v (.bl b)) = cO o S := by cases o <;> rfl
theorem chO_some (b : Bool) (f : O R) : chO (some b) f S = if b = true then f else .ok (.v (.bl false)) S := by cases b <;> rfl
theorem tuO_t (x : R) (f : O R) : tuO (some true) x f S = .ok x S := (rfl)
theorem tuO_f (x : R) (f : O R) : tuO (some false) x f S = f := (rfl)
theorem tru_n : truR (.v .non) = some false := (rfl)
theorem tru_b (b : Bool) : truR (.v (.bl b)) = some b := (rfl)
theorem tru_l0 : truR (.l []) = some false := (rfl)
theorem tru_l1 (d : D) (ds : List D) : truR (.l (d :: ds)) = some true := (rfl)
theorem tru_t (d : D) (ds : List D) : truR (.v (.tup (d :: ds))) = some true := (rfl)
theorem tyO_some (t : String) (ts : List Tn) : tyO (some t) ts S = .ok (.v (.bl (ts.any (isiB t)))) S := (rfl)
theorem iO_some {α : Type} (i : Int) (f : Int → O α) : iO (some i) f = f i := (rfl)
theorem nO_some {α : Type} (i : Nat) (f : Nat → O α) : nO (some i) f = f i := (rfl)
theorem gO_some {α : Type} (r : Loc) (f : Loc → Sto → O α) : gO (some r) f S = f r S := (rfl)
theorem rgO_some (j : Int) : rgO (some j) S = if -(2 ^ 62) ≤ j ∧ j < 2 ^ 62 then .ok ⟨[], rangeD 0 j, true⟩ S else .no := (rfl)
theorem rhO_some (i j : Int) : rhO (some i) (some j) S = if -(2 ^ 62) ≤ i ∧ i < 2 ^ 62 ∧ -(2 ^ 62) ≤ j ∧ j < 2 ^ 62 then .ok ⟨[], rangeD i j, true⟩ S else .no := (rfl)
theorem enO_t (ds : List D) : enO (.v (.tup ds)) S = .ok ⟨[], enumD 0 ds, false⟩ S := (rfl)
theorem enO_l (ds : List D) : enO (.v (.lst ds)) S = .ok ⟨[], enumD 0 ds, false⟩ S := (rfl)
theorem enO_k (ds : List D) : enO (.v (.lsk ds)) S = .ok ⟨[], enumD 0 ds, false⟩ S := (rfl)
theorem enO_n (ds : List D) : enO (.l ds) S = .ok ⟨[], enumD 0 ds, false⟩ S := (rfl)
theorem apO_o (ds : List D) (f : List D → O Flow) : apO (some (.own ds)) f = f ds := (rfl)
theorem rfO_r {α : Type} (a : Nat) (f : Nat → O α) : rfO (.v (.ref a)) f = f a := (rfl)
theorem stO_some {α : Type} (T : Sto) (f : Sto → O α) : stO (some T) f = f T := (rfl)
theorem roO_o (ds : List D) : roO (some (.own ds)) S = .ok (.ret (.l ds)) S := (rfl)
theorem roO_v (d : D) : roO (some (.v d)) S = .ok (.ret (.v d)) S := (rfl)
theorem trO_n (f : Nat → Loc → Sto → O Flow) : trO (.ok (.next r) S) f = .ok (.next r) S := (rfl)
theorem trO_t (x : R) (f : Nat → Loc → Sto → O Flow) : trO (.ok (.ret x) S) f = .ok (.ret x) S := (rfl)
theorem trO_b (f : Nat → Loc → Sto → O Flow) : trO (.ok (.brk r) S) f = .ok (.brk r) S := (rfl)
theorem trO_c (f : Nat → Loc → Sto → O Flow) : trO (.ok (.cont r) S) f = .ok (.cont r) S := (rfl)
theorem trO_r (k : Nat) (f : Nat → Loc → Sto → O Flow) : trO (.ok (.raise k r) S) f = f k r S := (rfl)
theorem trO_ite {p : Prop} [Decidable p] (x y : O Flow) (f : Nat → Loc → Sto → O Flow) : trO (if p then x else y) f = if p then trO x f else trO y f := by split <;> rfl
theorem sq_n (f : Loc → Sto → O Flow) : sqO (.ok (.next r) S) f = f r S := (rfl)
theorem sq_t (x : R) (f : Loc → Sto → O Flow) : sqO (.ok (.ret x) S) f = .ok (.ret x) S := (rfl)
theorem sq_b (f : Loc → Sto → O Flow) : sqO (.ok (.brk r) S) f = .ok (.brk r) S := (rfl)
theorem sq_c (f : Loc → Sto → O Flow) : sqO (.ok (.cont r) S) f = .ok (.cont r) S := (rfl)
theorem sq_r (k : Nat) (f : Loc → Sto → O Flow) : sqO (.ok (.raise k r) S) f = .ok (.raise k r) S := (rfl)
theorem sq_ite {p : Prop} [Decidable p] (x y : O Flow) (f : Loc → Sto → O Flow) : sqO (if p then x else y) f = if p then sqO x f else sqO y f := by split <;> rfl
theorem e_var (i : Nat) : evE P rc (.var i) r S = vO r[i]? S := by
  show (match r[i]? with | some (.v d) => .ok (.v d) S | _ => .no) = vO r[i]? S
  unfold vO
  rfl
theorem e_brw (i : Nat) : evE P rc (.brw i) r S = wO r[i]? S := by
  show (match r[i]? with | some (.v d) => .ok (.v d) S | some (.own ds) => .ok (.v (.lst ds)) S | _ => .no) = wO r[i]? S
  unfold wO
  rfl
theorem e_int (i : Int) : evE P rc (.int i) r S = .ok (.v (.int i)) S := (rfl)
theorem e_str (i : Str) : evE P rc (.str i) r S = .ok (.v (.str i)) S := (rfl)
theorem e_bl (i : Bool) : evE P rc (.bl i) r S = .ok (.v (.bl i)) S := (rfl)
theorem e_non : evE P rc .non r S = .ok (.v .non) S := (rfl)
theorem e_gv (x : Str) : evE P rc (.gv x) r S = .of S ((P.gv x).map .v) := (rfl)
def kbin2 (P : Pg) (rc : Nat → List D → Sto → O R) (op : Bo) (x1 : R) (x2 : R) (S : Sto) : O R := .of S (binR op S x1 x2)
theorem qbin2 (op : Bo) (x1 : R) (x2 : R) : kbin2 P rc op x1 x2 S = .of S (binR op S x1 x2) := (rfl)
def kbin1 (P : Pg) (rc : Nat → List D → Sto → O R) (op : Bo) (b : E) (r : Loc) (x1 : R) (S : Sto) : O R := (evE P rc b r S).bind (kbin2 P rc op x1)
theorem qbin1 (op : Bo) (b : E) (x1 : R) : kbin1 P rc op b r x1 S = (evE P rc b r S).bind (kbin2 P rc op x1) := (rfl)
theorem e_bin (op : Bo) (a : E) (b : E) : evE P rc (.bin op a b) r S = (evE P rc a r S).bind (kbin1 P rc op b r) := (rfl)
def kneg1 (P : Pg) (rc : Nat → List D → Sto → O R)  (x1 : R) (S : Sto) : O R := .of S ((intR x1).map fun i => .v (.int (-i)))
theorem qneg1  (x1 : R) : kneg1 P rc  x1 S = .of S ((intR x1).map fun i => .v (.int (-i))) := (rfl)
theorem e_neg  (a : E) : evE P rc (.neg a) r S = (evE P rc a r S).bind (kneg1 P rc ) := (rfl)
def kix2 (P : Pg) (rc : Nat → List D → Sto → O R)  (x1 : R) (x2 : R) (S : Sto) : O R := .of S (ixR S x1 x2)
theorem qix2  (x1 : R) (x2 : R) : kix2 P rc x1 x2 S = .of S (ixR S x1 x2) := (rfl)
def kix1 (P : Pg) (rc : Nat → List D → Sto → O R)  (b : E) (r : Loc) (x1 : R) (S : Sto) : O R := (evE P rc b r S).bind (kix2 P rc x1)
theorem qix1  (b : E) (x1 : R) : kix1 P rc b r x1 S = (evE P rc b r S).bind (kix2 P rc x1) := (rfl)
theorem e_ix  (a : E) (b : E) : evE P rc (.ix a b) r S = (evE P rc a r S).bind (kix1 P rc b r) := (rfl)
def ksl1 (P : Pg) (rc : Nat → List D → Sto → O R)  (x1 : R) (S : Sto) : O R := .of S (slR S x1 none none)
theorem qsl1  (x1 : R) : ksl1 P rc  x1 S = .of S (slR S x1 none none) := (rfl)
theorem e_sl  (a : E) : evE P rc (.sl a) r S = (evE P rc a r S).bind (ksl1 P rc ) := (rfl)
def kslA2 (P : Pg) (rc : Nat → List D → Sto → O R)  (x1 : R) (x2 : R) (S : Sto) : O R := iO (intR x2) fun i => .of S (slR S x1 (some i) none)
theorem qslA2  (x1 : R) (x2 : R) : kslA2 P rc x1 x2 S = iO (intR x2) fun i => .of S (slR S x1 (some i) none) := (rfl)
def kslA1 (P : Pg) (rc : Nat → List D → Sto → O R)  (b : E) (r : Loc) (x1 : R) (S : Sto) : O R := (evE P rc b r S).bind (kslA2 P rc x1)
theorem qslA1  (b : E) (x1 : R) : kslA1 P rc b r x1 S = (evE P rc b r S).bind (kslA2 P rc x1) := (rfl)
theorem e_slA  (a : E) (b : E) : evE P rc (.slA a b) r S = (evE P rc a r S).bind (kslA1 P rc b r) := (rfl)
def kslB2 (P : Pg) (rc : Nat → List D → Sto → O R)  (x1 : R) (x2 : R) (S : Sto) : O R := iO (intR x2) fun i => .of S (slR S x1 none (some i))
theorem qslB2  (x1 : R) (x2 : R) : kslB2 P rc x1 x2 S = iO (intR x2) fun i => .of S (slR S x1 none (some i)) := (rfl)
def kslB1 (P : Pg) (rc : Nat → List D → Sto → O R)  (b : E) (r : Loc) (x1 : R) (S : Sto) : O R := (evE P rc b r S).bind (kslB2 P rc x1)
theorem qslB1  (b : E) (x1 : R) : kslB1 P rc b r x1 S = (evE P rc b r S).bind (kslB2 P rc x1) := (rfl)
theorem e_slB  (a : E) (b : E) : evE P rc (.slB a b) r S = (evE P rc a r S).bind (kslB1 P rc b r) := (rfl)
def krev1 (P : Pg) (rc : Nat → List D → Sto → O R)  (x1 : R) (S : Sto) : O R := .of S (revR S x1)
theorem qrev1  (x1 : R) : krev1 P rc  x1 S = .of S (revR S x1) := (rfl)
theorem e_rev  (a : E) : evE P rc (.rev a) r S = (evE P rc a r S).bind (krev1 P rc ) := (rfl)
def kbox1 (P : Pg) (rc : Nat → List D → Sto → O R)  (x1 : R) (S : Sto) : O R := pairO (boxR S x1)
theorem qbox1  (x1 : R) : kbox1 P rc  x1 S = pairO (boxR S x1) := (rfl)
theorem e_box  (a : E) : evE P rc (.box a) r S = (evE P rc a r S).bind (kbox1 P rc ) := (rfl)
def kisi1 (P : Pg) (rc : Nat → List D → Sto → O R) (ts : List Tn) (x1 : R) (S : Sto) : O R := tyO (tyR S x1) ts S
theorem qisi1 (ts : List Tn) (x1 : R) : kisi1 P rc ts x1 S = tyO (tyR S x1) ts S := (rfl)
theorem e_isi (ts : List Tn) (a : E) : evE P rc (.isi a ts) r S = (evE P rc a r S).bind (kisi1 P rc ts) := (rfl)
def kcmp2 (op : Co) (x y : R) (S : Sto) : O R := cO (cmpR op S x y) S
def kcmp1 (P : Pg) (rc : Nat → List D → Sto → O R) (op : Co) (b : E) (r : Loc) (x : R) (S : Sto) : O R := (evE P rc b r S).bind (kcmp2 op x)
theorem qcmp2 (op : Co) (x y : R) : kcmp2 op x y S = cO (cmpR op S x y) S := (rfl)
theorem qcmp1 (op : Co) (b : E) (x : R) : kcmp1 P rc op b r x S = (evE P rc b r S).bind (kcmp2 op x) := (rfl)
theorem e_cmp (op : Co) (a b : E) : evE P rc (.cmp op a b) r S = (evE P rc a r S).bind (kcmp1 P rc op b r) := by
  show ((evE P rc a r S).bind fun x S => (evE P rc b r S).bind fun y S => O.of S ((cmpR op S x y).map fun b => R.v (.bl b))) = _
  simp only [cO_of]
  rfl
def kcha2 (P : Pg) (rc : Nat → List D → Sto → O R) (op op' : Co) (c : E) (r : Loc) (x y : R) (S : Sto) : O R := chO (cmpR op S x y) ((evE P rc c r S).bind (kcmp2 op' y)) S
def kcha1 (P : Pg) (rc : Nat → List D → Sto → O R) (op op' : Co) (b c : E) (r : Loc) (x : R) (S : Sto) : O R := (evE P rc b r S).bind (kcha2 P rc op op' c r x)
theorem qcha2 (op op' : Co) (c : E) (x y : R) : kcha2 P rc op op' c r x y S = chO (cmpR op S x y) ((evE P rc c r S).bind (kcmp2 op' y)) S := (rfl)
theorem qcha1 (op op' : Co) (b c : E) (x : R) : kcha1 P rc op op' b c r x S = (evE P rc b r S).bind (kcha2 P rc op op' c r x) := (rfl)
theorem e_chain (op op' : Co) (a b c : E) : evE P rc (.chain op op' a b c) r S = (evE P rc a r S).bind (kcha1 P rc op op' b c r) := by
  show ((evE P rc a r S).bind fun x S => (evE P rc b r S).bind fun y S => (match cmpR op S x y with
    | some true => (evE P rc c r S).bind fun z S => O.of S ((cmpR op' S y z).map fun b => R.v (.bl b))
    | some false => .ok (R.v (.bl false)) S
    | none => .no)) = _
  simp only [cO_of]
  rfl
def knt   (x : Bool) (S : Sto) : O R := .ok (.v (.bl (!x))) S
theorem qnt  (x : Bool) : knt  x S = .ok (.v (.bl (!x))) S := (rfl)
theorem e_nt (a : E) : evE P rc (.nt a) r S = (boolO (evE P rc a r S)).bind knt := (rfl)
def kand (P : Pg) (rc : Nat → List D → Sto → O R) (b : E) (r : Loc) (x : Bool) (S : Sto) : O R := if x = true then evE P rc b r S else .ok (.v (.bl false)) S
theorem qand (b : E)  (x : Bool) : kand P rc b r x S = if x = true then evE P rc b r S else .ok (.v (.bl false)) S := (rfl)
theorem e_and (a b : E) : evE P rc (.and a b) r S = (boolO (evE P rc a r S)).bind (kand P rc b r) := (rfl)
def kor (P : Pg) (rc : Nat → List D → Sto → O R) (b : E) (r : Loc) (x : Bool) (S : Sto) : O R := if x = true then .ok (.v (.bl true)) S else evE P rc b r S
theorem qor (b : E)  (x : Bool) : kor P rc b r x S = if x = true then .ok (.v (.bl true)) S else evE P rc b r S := (rfl)
theorem e_or (a b : E) : evE P rc (.or a b) r S = (boolO (evE P rc a r S)).bind (kor P rc b r) := (rfl)
def korv (P : Pg) (rc : Nat → List D → Sto → O R) (b : E) (r : Loc) (x : R) (S : Sto) : O R := tuO (truR x) x (evE P rc b r S) S
theorem qorv (b : E)  (x : R) : korv P rc b r x S = tuO (truR x) x (evE P rc b r S) S := (rfl)
theorem e_orv (a b : E) : evE P rc (.orv a b) r S = (evE P rc a r S).bind (korv P rc b r) := (rfl)
def kite (P : Pg) (rc : Nat → List D → Sto → O R) (a b : E) (r : Loc) (x : Bool) (S : Sto) : O R := if x = true then evE P rc a r S else evE P rc b r S
theorem qite (a b : E)  (x : Bool) : kite P rc a b r x S = if x = true then evE P rc a r S else evE P rc b r S := (rfl)
theorem e_ite (c a b : E) : evE P rc (.ite c a b) r S = (boolO (evE P rc c r S)).bind (kite P rc a b r) := (rfl)
def ktup   (x : (List D)) (S : Sto) : O R := if x.length ≤ sizeLine then .ok (.v (.tup x)) S else .no
theorem qtup  (x : (List D)) : ktup  x S = if x.length ≤ sizeLine then .ok (.v (.tup x)) S else .no := (rfl)
theorem e_tup (es : Es) : evE P rc (.tup es) r S = (evEs P rc es r S).bind ktup := (rfl)
def klst   (x : (List D)) (S : Sto) : O R := if x.length ≤ sizeLine then .ok (.l x) S else .no
theorem qlst  (x : (List D)) : klst  x S = if x.length ≤ sizeLine then .ok (.l x) S else .no := (rfl)
theorem e_lst (es : Es) : evE P rc (.lst es) r S = (evEs P rc es r S).bind klst := (rfl)
def kdsp  (ks : List Key) (x : (List D)) (S : Sto) : O R := if x.length = ks.length ∧ ks.length ≤ 15 then .ok (.d (mergeA (ks.zip x))) S else .no
theorem qdsp (ks : List Key) (x : (List D)) : kdsp ks x S = if x.length = ks.length ∧ ks.length ≤ 15 then .ok (.d (mergeA (ks.zip x))) S else .no := (rfl)
theorem e_dsp (ks : List Key) (es : Es) : evE P rc (.dsp ks es) r S = (evEs P rc es r S).bind (kdsp ks) := (rfl)
theorem e_dnT : evE P rc .dnT r S = .ok (.t []) S := (rfl)
def kcall  (rc : Nat → List D → Sto → O R) (f : Nat) (x : (List D)) (S : Sto) : O R := rc f x S
theorem qcall (rc : Nat → List D → Sto → O R) (f : Nat) (x : (List D)) : kcall rc f x S = rc f x S := (rfl)
noncomputable def cvO (P : Pg) (rc : Nat → List D → Sto → O R) (es : Es) (r : Loc) (S : Sto) : Option Sl → O R
  | some (.v (.fn f)) => if (P.fn f).isSome = true then (evEs P rc es r S).bind (kcall rc f) else .no
  | _ => .no

theorem e_cv (i : Nat) (es : Es) : evE P rc (.cv i es) r S = cvO P rc es r S r[i]? := by
  show (match r[i]? with
    | some (.v (.fn f)) => if (P.fn f).isSome = true then (evEs P rc es r S).bind fun ds S => rc f ds S else .no
    | _ => .no) = _
  generalize r[i]? = o
  cases o with
  | none => rfl
  | some s => cases s with
    | v d => cases d <;> rfl
    | _ => rfl
theorem cvO_f (es : Es) (f : Nat) : cvO P rc es r S (some (.v (.fn f))) = if (P.fn f).isSome = true then (evEs P rc es r S).bind (kcall rc f) else .no := (rfl)
theorem e_call (f : Nat) (es : Es) : evE P rc (.call f es) r S = (evEs P rc es r S).bind (kcall rc f) := (rfl)
def kbi  (b : Bi) (x : (List R)) (S : Sto) : O R := .of S (biR b S x)
theorem qbi (b : Bi) (x : (List R)) : kbi b x S = .of S (biR b S x) := (rfl)
theorem e_bi (b : Bi) (es : Es) : evE P rc (.bi b es) r S = (evRs P rc es r S).bind (kbi b) := (rfl)
def kbm2  (m : Bm) (o : R) (x : (List D)) (S : Sto) : O R := pairO (bmR m S o x)
theorem qbm2 (m : Bm) (o : R) (x : (List D)) : kbm2 m o x S = pairO (bmR m S o x) := (rfl)
def kbm1 (P : Pg) (rc : Nat → List D → Sto → O R) (m : Bm) (es : Es) (r : Loc) (x : R) (S : Sto) : O R := if bmOk m S x = true then (evEs P rc es r S).bind (kbm2 m x) else .no
theorem qbm1 (m : Bm) (es : Es)  (x : R) : kbm1 P rc m es r x S = if bmOk m S x = true then (evEs P rc es r S).bind (kbm2 m x) else .no := (rfl)
theorem e_bm (m : Bm) (o : E) (es : Es) : evE P rc (.bm m o es) r S = (evE P rc o r S).bind (kbm1 P rc m es r) := (rfl)
def kslAB3  (o : R) (lo : Int) (x : R) (S : Sto) : O R := iO (intR x) fun j => .of S (slR S o (some lo) (some j))
theorem qslAB3 (o : R) (lo : Int) (x : R) : kslAB3 o lo x S = iO (intR x) fun j => .of S (slR S o (some lo) (some j)) := (rfl)
def kslAB2 (P : Pg) (rc : Nat → List D → Sto → O R) (hi : E) (r : Loc) (o : R) (x : R) (S : Sto) : O R := iO (intR x) fun i => (evE P rc hi r S).bind (kslAB3 o i)
theorem qslAB2 (hi : E)  (o : R) (x : R) : kslAB2 P rc hi r o x S = iO (intR x) fun i => (evE P rc hi r S).bind (kslAB3 o i) := (rfl)
def kslAB1 (P : Pg) (rc : Nat → List D → Sto → O R) (lo hi : E) (r : Loc) (x : R) (S : Sto) : O R := (evE P rc lo r S).bind (kslAB2 P rc hi r x)
theorem qslAB1 (lo hi : E)  (x : R) : kslAB1 P rc lo hi r x S = (evE P rc lo r S).bind (kslAB2 P rc hi r x) := (rfl)
theorem e_slAB (a lo hi : E) : evE P rc (.slAB a lo hi) r S = (evE P rc a r S).bind (kslAB1 P rc lo hi r) := (rfl)
def ksome   (x : D) (S : Sto) : O (Option D) := .ok (some x) S
theorem qsome  (x : D) : ksome  x S = .ok (some x) S := (rfl)
def kL   (x : (List D)) (S : Sto) : O R := .ok (.l x) S
theorem qL  (x : (List D)) : kL  x S = .ok (.l x) S := (rfl)
def bLc (P : Pg) (rc : Nat → List D → Sto → O R) (e : E) (r : Loc) (S : Sto) : O (Option D) := (valO (evE P rc e r S)).bind ksome
def fLc (P : Pg) (rc : Nat → List D → Sto → O R) (own : List Nat) (g : G) (e : E) (r : Loc) (d : D) (S : Sto) : O (Option D) := gO (setG S g (.v d) (wipeL r own)) (bLc P rc e) S
def cLcI (P : Pg) (rc : Nat → List D → Sto → O R) (e : E) (r : Loc) (b : Bool) (S : Sto) : O (Option D) := if b = true then (valO (evE P rc e r S)).bind ksome else .ok none S
def bLcI (P : Pg) (rc : Nat → List D → Sto → O R) (c e : E) (r : Loc) (S : Sto) : O (Option D) := (boolO (evE P rc c r S)).bind (cLcI P rc e r)
def fLcI (P : Pg) (rc : Nat → List D → Sto → O R) (own : List Nat) (g : G) (c e : E) (r : Loc) (d : D) (S : Sto) : O (Option D) := gO (setG S g (.v d) (wipeL r own)) (bLcI P rc c e) S
theorem fLc_eq (own : List Nat) (g : G) (e : E) (d : D) : fLc P rc own g e r d S = gO (setG S g (.v d) (wipeL r own)) (bLc P rc e) S := rfl
theorem fLcI_eq (own : List Nat) (g : G) (c e : E) (d : D) : fLcI P rc own g c e r d S = gO (setG S g (.v d) (wipeL r own)) (bLcI P rc c e) S := rfl
theorem q_bLc (e : E) : bLc P rc e r S = (valO (evE P rc e r S)).bind ksome := (rfl)
theorem q_cLcI (e : E) (b : Bool) : cLcI P rc e r b S = if b = true then (valO (evE P rc e r S)).bind ksome else .ok none S := (rfl)
theorem q_bLcI (c e : E) : bLcI P rc c e r S = (boolO (evE P rc c r S)).bind (cLcI P rc e r) := (rfl)
def klc (P : Pg) (rc : Nat → List D → Sto → O R) (own : List Nat) (g : G) (e : E) (r : Loc) (x : Src) (S : Sto) : O R := (lcL x.keep (fLc P rc own g e r) x.items [] S).bind kL
theorem qlc (own : List Nat) (g : G) (e : E)  (x : Src) : klc P rc own g e r x S = (lcL x.keep (fLc P rc own g e r) x.items [] S).bind kL := (rfl)
theorem e_lc (own : List Nat) (g : G) (it : It) (e : E) : evE P rc (.lc own g it e) r S = (evIt P rc it r S).bind (klc P rc own g e r) := (rfl)
def klcI (P : Pg) (rc : Nat → List D → Sto → O R) (own : List Nat) (g : G) (c e : E) (r : Loc) (x : Src) (S : Sto) : O R := (lcL x.keep (fLcI P rc own g c e r) x.items [] S).bind kL
theorem qlcI (own : List Nat) (g : G) (c e : E)  (x : Src) : klcI P rc own g c e r x S = (lcL x.keep (fLcI P rc own g c e r) x.items [] S).bind kL := (rfl)
theorem e_lcI (own : List Nat) (g : G) (it : It) (c e : E) : evE P rc (.lcI own g it c e) r S = (evIt P rc it r S).bind (klcI P rc own g c e r) := (rfl)
def bLcx (P : Pg) (rc : Nat → List D → Sto → O R) (e : E) (r : Loc) (S : Sto) : O D := valO (evE P rc e r S)
def fLcx (P : Pg) (rc : Nat → List D → Sto → O R) (own : List Nat) (g : G) (e : E) (r : Loc) (d : D) (S : Sto) : O D := gO (setG S g (.v d) (wipeL r own)) (bLcx P rc e) S
theorem fLcx_eq (own : List Nat) (g : G) (e : E) (d : D) : fLcx P rc own g e r d S = gO (setG S g (.v d) (wipeL r own)) (bLcx P rc e) S := rfl
theorem q_bLcx (e : E) : bLcx P rc e r S = valO (evE P rc e r S) := (rfl)
def klcx (P : Pg) (rc : Nat → List D → Sto → O R) (own : List Nat) (g : G) (e : E) (r : Loc) (x : Src) (S : Sto) : O R := (lcxL x.keep (fLcx P rc own g e r) x.items [] S).bind kL
theorem qlcx (own : List Nat) (g : G) (e : E)  (x : Src) : klcx P rc own g e r x S = (lcxL x.keep (fLcx P rc own g e r) x.items [] S).bind kL := (rfl)
theorem e_lcx (own : List Nat) (g : G) (it : It) (e : E) : evE P rc (.lcx own g it e) r S = (evIt P rc it r S).bind (klcx P rc own g e r) := (rfl)
def kes2  (d : D) (x : (List D)) (S : Sto) : O (List D) := .ok (d :: x) S
theorem qes2 (d : D) (x : (List D)) : kes2 d x S = .ok (d :: x) S := (rfl)
def kes1 (P : Pg) (rc : Nat → List D → Sto → O R) (es : Es) (r : Loc) (x : D) (S : Sto) : O (List D) := (evEs P rc es r S).bind (kes2 x)
theorem qes1 (es : Es)  (x : D) : kes1 P rc es r x S = (evEs P rc es r S).bind (kes2 x) := (rfl)
theorem es_nil : evEs P rc .nil r S = .ok [] S := (rfl)
theorem es_cons (e : E) (es : Es) : evEs P rc (.cons e es) r S = (valO (evE P rc e r S)).bind (kes1 P rc es r) := (rfl)
def fsO (o : Option Str) (f : Str → O Str) : O Str := match o with
  | some y => f y
  | none => .no
theorem fsO_s (y : Str) (f : Str → O Str) : fsO (some y) f = f y := (rfl)
def kfs1 (P : Pg) (rc : Nat → List D → Sto → O R) (es : Es) (acc : Str) (r : Loc) (x : D) (S : Sto) : O Str := fsO (fs1 x) fun y => if (acc ++ y).length ≤ sizeLine then evFs P rc es (acc ++ y) r S else .no
theorem qfs1 (es : Es) (acc : Str)  (x : D) : kfs1 P rc es acc r x S = fsO (fs1 x) fun y => if (acc ++ y).length ≤ sizeLine then evFs P rc es (acc ++ y) r S else .no := (rfl)
theorem fs_nil (acc : Str) : evFs P rc .nil acc r S = .ok acc S := (rfl)
theorem fs_cons (e : E) (es : Es) (acc : Str) : evFs P rc (.cons e es) acc r S = (valO (evE P rc e r S)).bind (kfs1 P rc es acc r) := (rfl)
def kfst   (x : Str) (S : Sto) : O R := .ok (.v (.str x)) S
theorem qfst  (x : Str) : kfst  x S = .ok (.v (.str x)) S := (rfl)
theorem e_fst (es : Es) : evE P rc (.fst es) r S = (evFs P rc es Str.empty r S).bind kfst := (rfl)
def krs2  (d : R) (x : (List R)) (S : Sto) : O (List R) := .ok (d :: x) S
theorem qrs2 (d : R) (x : (List R)) : krs2 d x S = .ok (d :: x) S := (rfl)
def krs1 (P : Pg) (rc : Nat → List D → Sto → O R) (es : Es) (r : Loc) (x : R) (S : Sto) : O (List R) := (evRs P rc es r S).bind (krs2 x)
theorem qrs1 (es : Es)  (x : R) : krs1 P rc es r x S = (evRs P rc es r S).bind (krs2 x) := (rfl)
theorem rs_nil : evRs P rc .nil r S = .ok [] S := (rfl)
theorem rs_cons (e : E) (es : Es) : evRs P rc (.cons e es) r S = (evE P rc e r S).bind (krs1 P rc es r) := (rfl)
def kitE   (x : R) (S : Sto) : O Src := .of S (srcOf S x)
theorem qitE  (x : R) : kitE  x S = .of S (srcOf S x) := (rfl)
def zpO (a b : Option (List D)) (s t : Option Src) (S : Sto) : O Src := match a, b, s, t with
  | some _, some _, some s1, some s2 => .ok ⟨s1.keep ++ s2.keep, zipD s1.items s2.items, false⟩ S
  | _, _, _, _ => .no
def rvO (a : Option (List D)) (s : Option Src) (S : Sto) : O Src := match a, s with
  | some _, some sr => .ok ⟨sr.keep, sr.items.reverse, false⟩ S
  | _, _ => .no
theorem zpO_s (a b : List D) (s t : Src) : zpO (some a) (some b) (some s) (some t) S = .ok ⟨s.keep ++ t.keep, zipD s.items t.items, false⟩ S := (rfl)
theorem rvO_s (a : List D) (s : Src) : rvO (some a) (some s) S = .ok ⟨s.keep, s.items.reverse, false⟩ S := (rfl)
def kzpb  (o : R) (x : R) (S : Sto) : O Src := zpO (lsOf S o) (lsOf S x) (srcOf S o) (srcOf S x) S
theorem qzpb (o : R) (x : R) : kzpb o x S = zpO (lsOf S o) (lsOf S x) (srcOf S o) (srcOf S x) S := (rfl)
def kzpa (P : Pg) (rc : Nat → List D → Sto → O R) (b : E) (r : Loc) (x : R) (S : Sto) : O Src := (evE P rc b r S).bind (kzpb x)
theorem qzpa (b : E)  (x : R) : kzpa P rc b r x S = (evE P rc b r S).bind (kzpb x) := (rfl)
theorem it_zp (a b : E) : evIt P rc (.zp a b) r S = (evE P rc a r S).bind (kzpa P rc b r) := by
  show ((evE P rc a r S).bind fun x S => (evE P rc b r S).bind fun y S => (match lsOf S x, lsOf S y, srcOf S x, srcOf S y with | some _, some _, some s1, some s2 => _ | _, _, _, _ => _)) = _
  unfold kzpa kzpb zpO
  rfl
def krvi   (x : R) (S : Sto) : O Src := rvO (lsOf S x) (srcOf S x) S
theorem qrvi  (x : R) : krvi  x S = rvO (lsOf S x) (srcOf S x) S := (rfl)
theorem it_rv (a : E) : evIt P rc (.rv a) r S = (evE P rc a r S).bind krvi := by
  show ((evE P rc a r S).bind fun x S => (match lsOf S x, srcOf S x with | some _, some sr => _ | _, _ => _)) = _
  unfold krvi rvO
  rfl
theorem it_e (a : E) : evIt P rc (.e a) r S = (evE P rc a r S).bind kitE := (rfl)
def krg1   (x : R) (S : Sto) : O Src := rgO (intR x) S
theorem qrg1  (x : R) : krg1  x S = rgO (intR x) S := (rfl)
theorem it_rg1 (a : E) : evIt P rc (.rg1 a) r S = (evE P rc a r S).bind krg1 := (rfl)
def krgb  (o : R) (x : R) (S : Sto) : O Src := rhO (intR o) (intR x) S
theorem qrgb (o : R) (x : R) : krgb o x S = rhO (intR o) (intR x) S := (rfl)
def krga (P : Pg) (rc : Nat → List D → Sto → O R) (b : E) (r : Loc) (x : R) (S : Sto) : O Src := (evE P rc b r S).bind (krgb x)
theorem qrga (b : E)  (x : R) : krga P rc b r x S = (evE P rc b r S).bind (krgb x) := (rfl)
theorem it_rg2 (a b : E) : evIt P rc (.rg2 a b) r S = (evE P rc a r S).bind (krga P rc b r) := (rfl)
def ken   (x : R) (S : Sto) : O Src := enO x S
theorem qen  (x : R) : ken  x S = enO x S := (rfl)
theorem it_en (a : E) : evIt P rc (.en a) r S = (evE P rc a r S).bind ken := (rfl)
/-! ### statements -/
def nxt (r : Loc) (S : Sto) : O Flow := .ok (.next r) S
def asgO (b : Bool) (g : G) (r : Loc) (x : R) (S : Sto) : O Flow := if brwR b x = true then gO (setG S g x r) nxt S else .no
def ownO (b : Bool) (i : Nat) (r : Loc) (x : R) (S : Sto) : O Flow := match x with
  | .l ds => if brwL b ds = true then .ok (.next (r.set i (.own ds))) S else .no
  | _ => .no
theorem q_nxt : nxt r S = .ok (.next r) S := (rfl)
theorem asg_n (i : Nat) (d : D) : asgO false (.name i) r (.v d) S = .ok (.next (r.set i (.v d))) S := (rfl)
theorem asg_l (i : Nat) (ds : List D) : asgO false (.name i) r (.l ds) S = .ok (.next (r.set i (.v (.lst ds)))) S := (rfl)
theorem asg_d (i : Nat) (kvs : List (Key × D)) : asgO false (.name i) r (.d kvs) S = .ok (.next (r.set i (.v (.dct (kvs.map (·.1)) (kvs.map (·.2)))))) S := (rfl)
theorem asg_lb (i : Nat) (ds : List D) : asgO true (.name i) r (.l ds) S = if noLs ds = true then .ok (.next (r.set i (.v (.lst ds)))) S else .no := (rfl)
theorem asg_b (i : Nat) (d : D) : asgO true (.name i) r (.v d) S = if noL d = true then .ok (.next (r.set i (.v d))) S else .no := (rfl)
theorem asg_t (is : List Nat) (ds : List D) : asgO false (.tup is) r (.v (.tup ds)) S = gO (setAll is ds r) nxt S := (rfl)
theorem asg_tk (is : List Nat) (ds : List D) : asgO false (.tup is) r (.v (.tpk ds)) S = gO (setAll is ds r) nxt S := (rfl)
theorem setAll_nil : setAll [] [] r = some r := (rfl)
theorem setAll_cons (i : Nat) (is : List Nat) (d : D) (ds : List D) : setAll (i :: is) (d :: ds) r = setAll is ds (r.set i (.v d)) := (rfl)
theorem setG_n (i : Nat) (d : D) : setG S (.name i) (.v d) r = some (r.set i (.v d)) := (rfl)
theorem setG_t (is : List Nat) (ds : List D) : setG S (.tup is) (.v (.tup ds)) r = setAll is ds r := (rfl)
theorem setG_tk (is : List Nat) (ds : List D) : setG S (.tup is) (.v (.tpk ds)) r = setAll is ds r := (rfl)
theorem wipe_nil : wipeL r [] = r := (rfl)
theorem wipe_cons (i : Nat) (is : List Nat) : wipeL r (i :: is) = (wipeL r is).set i .un := (rfl)
theorem z_asg (b : Bool) (g : G) (e : E) : evS P rc (.asg b g e) r S = flowO r (evE P rc e r S) (asgO b g r) := (rfl)
theorem own_l (i : Nat) (ds : List D) : ownO false i r (.l ds) S = .ok (.next (r.set i (.own ds))) S := (rfl)
theorem own_b (i : Nat) (ds : List D) : ownO true i r (.l ds) S = if noLs ds = true then .ok (.next (r.set i (.own ds))) S else .no := (rfl)
theorem z_own (b : Bool) (i : Nat) (e : E) : evS P rc (.own b i e) r S = flowO r (evE P rc e r S) (ownO b i r) := (rfl)
def kapn  (b : Bool) (i : Nat) (r : Loc) (ds : List D) (x : D) (S : Sto) : O Flow := if brwB b x = true ∧ ds.length < sizeLine then .ok (.next (r.set i (.own (ds ++ [x])))) S else .no
theorem qapn (b : Bool) (i : Nat)  (ds : List D) (x : D) : kapn b i r ds x S = if brwB b x = true ∧ ds.length < sizeLine then .ok (.next (r.set i (.own (ds ++ [x])))) S else .no := (rfl)
theorem z_apn (b : Bool) (i : Nat) (e : E) : evS P rc (.apn b i e) r S = apO r[i]? fun ds => flowO r (valO (evE P rc e r S)) (kapn b i r ds) := by
  show (match r[i]? with | some (.own ds) => _ | _ => _) = _
  unfold apO
  rfl
def kseta  (b : Bool) (i : Nat) (r : Loc) (ds : List D) (d : D) (x : R) (S : Sto) : O Flow := iO (intR x) fun k => nO (L2.ixN ds.length k) fun j => if brwB b d = true then .ok (.next (r.set i (.own (ds.set j d)))) S else .no
theorem qseta (b : Bool) (i : Nat)  (ds : List D) (d : D) (x : R) : kseta b i r ds d x S = iO (intR x) fun k => nO (L2.ixN ds.length k) fun j => if brwB b d = true then .ok (.next (r.set i (.own (ds.set j d)))) S else .no := (rfl)
def ksetb (P : Pg) (rc : Nat → List D → Sto → O R) (b : Bool) (i : Nat) (k : E) (r : Loc) (x : D) (S : Sto) : O Flow := apO r[i]? fun ds => flowO r (evE P rc k r S) (kseta b i r ds x)
theorem qsetb (b : Bool) (i : Nat) (k : E)  (x : D) : ksetb P rc b i k r x S = apO r[i]? fun ds => flowO r (evE P rc k r S) (kseta b i r ds x) := (rfl)
theorem z_setO (b : Bool) (i : Nat) (k e : E) : evS P rc (.setO b i k e) r S = flowO r (valO (evE P rc e r S)) (ksetb P rc b i k r) := by
  show (flowO r (valO (evE P rc e r S)) fun d S => (match r[i]? with | some (.own ds) => _ | _ => _)) = _
  unfold ksetb
  unfold apO
  rfl
theorem z_frz (i : Nat) : evS P rc (.frz i) r S = apO r[i]? fun ds => .ok (.next (r.set i (.v (.lst ds)))) S := by
  show (match r[i]? with | some (.own ds) => _ | _ => _) = _
  unfold apO
  rfl
def kaixc  (r : Loc) (d : D) (y : R) (x : R) (S : Sto) : O Flow := rfO y fun a => stO (putR S a x d) fun S' => .ok (.next r) S'
theorem qaixc  (d : D) (y : R) (x : R) : kaixc r d y x S = rfO y fun a => stO (putR S a x d) fun S' => .ok (.next r) S' := (rfl)
def kaixb (P : Pg) (rc : Nat → List D → Sto → O R) (i : E) (r : Loc) (d : D) (x : R) (S : Sto) : O Flow := flowO r (evE P rc i r S) (kaixc r d x)
theorem qaixb (i : E)  (d : D) (x : R) : kaixb P rc i r d x S = flowO r (evE P rc i r S) (kaixc r d x) := (rfl)
def kaixa (P : Pg) (rc : Nat → List D → Sto → O R) (o i : E) (r : Loc) (x : D) (S : Sto) : O Flow := flowO r (evE P rc o r S) (kaixb P rc i r x)
theorem qaixa (o i : E)  (x : D) : kaixa P rc o i r x S = flowO r (evE P rc o r S) (kaixb P rc i r x) := (rfl)
theorem z_asgIx (o i e : E) : evS P rc (.asgIx o i e) r S = flowO r (valO (evE P rc e r S)) (kaixa P rc o i r) := (rfl)
def kdrop  (r : Loc) (x : R) (S : Sto) : O Flow := .ok (.next r) S
theorem qdrop  (x : R) : kdrop r x S = .ok (.next r) S := (rfl)
theorem z_drop (e : E) : evS P rc (.drop e) r S = flowO r (evE P rc e r S) (kdrop r) := (rfl)
def kret   (x : R) (S : Sto) : O Flow := .ok (.ret x) S
theorem qret  (x : R) : kret  x S = .ok (.ret x) S := (rfl)
theorem z_ret (e : E) : evS P rc (.ret e) r S = flowO r (evE P rc e r S) kret := (rfl)
theorem z_retO (i : Nat) : evS P rc (.retO i) r S = roO r[i]? S := by
  show (match r[i]? with | some (.own ds) => _ | some (.v d) => _ | _ => _) = _
  unfold roO
  rfl
theorem z_retN : evS P rc .retN r S = .ok (.ret (.v .non)) S := (rfl)
def ksit (P : Pg) (rc : Nat → List D → Sto → O R) (a b : Ss) (r : Loc) (x : Bool) (S : Sto) : O Flow := if x = true then evSs P rc a r S else evSs P rc b r S
theorem qsit (a b : Ss)  (x : Bool) : ksit P rc a b r x S = if x = true then evSs P rc a r S else evSs P rc b r S := (rfl)
theorem z_ite (c : E) (a b : Ss) : evS P rc (.ite c a b) r S = flowO r (boolO (evE P rc c r S)) (ksit P rc a b r) := (rfl)
def bodyF (P : Pg) (rc : Nat → List D → Sto → O R) (g : G) (body : Ss) (d : D) (r : Loc) (S : Sto) : O Flow := gO (setG S g (.v d) r) (evSs P rc body) S
theorem bodyF_eq (g : G) (body : Ss) (d : D) : bodyF P rc g body d r S = gO (setG S g (.v d) r) (evSs P rc body) S := rfl
def kfor (P : Pg) (rc : Nat → List D → Sto → O R) (b : Bool) (g : G) (body : Ss) (r : Loc) (x : Src) (S : Sto) : O Flow := if brwL b x.items = true ∧ (!b || x.fx) = true then forL x.keep (bodyF P rc g body) x.items r S else .no
theorem qfor (b : Bool) (g : G) (body : Ss)  (x : Src) : kfor P rc b g body r x S = if brwL b x.items = true ∧ (!b || x.fx) = true then forL x.keep (bodyF P rc g body) x.items r S else .no := (rfl)
theorem z_fr (b : Bool) (g : G) (it : It) (body : Ss) : evS P rc (.fr b g it body) r S = flowO r (evIt P rc it r S) (kfor P rc b g body r) := (rfl)
def whlC (P : Pg) (rc : Nat → List D → Sto → O R) (c : E) (r : Loc) (S : Sto) : O Bool := boolO (evE P rc c r S)
theorem whlC_eq (c : E) : whlC P rc c r S = boolO (evE P rc c r S) := rfl
theorem z_whl (n : Nat) (c : E) (b : Ss) : evS P rc (.whl n c b) r S = whlL (whlC P rc c) (evSs P rc b) n r S := (rfl)
theorem z_rse (k : Nat) : evS P rc (.rse k) r S = .ok (.raise k r) S := (rfl)
theorem z_tr (b : Ss) (hs : Hs) : evS P rc (.tr b hs) r S = trO (evSs P rc b r S) (evHs P rc hs) := (rfl)
def insO {α : Type} (o : Option Ob) (f : Nat → List (Str × D) → O α) : O α := match o with
  | some (.ins c fs) => f c fs
  | _ => .no
def mtO {α : Type} (g : Option D) (t : Option Nat) (f : Nat → O α) : O α := match g, t with
  | none, some k => f k
  | _, _ => .no
def rkO (o p : Option Int) (c : Int) (S : Sto) : O Src := match o, p with
  | some i, some j => if -(2 ^ 62) ≤ i ∧ i < 2 ^ 62 ∧ -(2 ^ 62) ≤ j ∧ j < 2 ^ 62 ∧ 0 < c ∧ c < 1000 then .ok ⟨[], (List.range ((j - i + c - 1) / c).toNat).map fun (k : Nat) => D.int (i + (k : Int) * c), true⟩ S else .no
  | _, _ => .no
def rkD (o p : Option Int) (S : Sto) : O Src := match o, p with
  | some i, some j => if -(2 ^ 62) ≤ i ∧ i < 2 ^ 62 ∧ -(2 ^ 62) ≤ j ∧ j < 2 ^ 62 then .ok ⟨[], (List.range (i - j).toNat).map fun (k : Nat) => D.int (i + (k : Int) * (-1)), true⟩ S else .no
  | _, _ => .no
def skO (o : Option Fd) (x : O R) : O R := match o with
  | some fd => if isFst fd = true then x else .no
  | none => .no
def hdO (o : Option Bool) (x y : O Flow) : O Flow := match o with
  | some true => (match x with
    | .ok (.raise _ _) _ => .no
    | o => o)
  | some false => y
  | none => .no
theorem insO_some {α : Type} (c : Nat) (fs : List (Str × D)) (f : Nat → List (Str × D) → O α) : insO (some (.ins c fs)) f = f c fs := (rfl)
theorem mtO_some {α : Type} (k : Nat) (f : Nat → O α) : mtO none (some k) f = f k := (rfl)
theorem rkO_some (i j c : Int) : rkO (some i) (some j) c S = if -(2 ^ 62) ≤ i ∧ i < 2 ^ 62 ∧ -(2 ^ 62) ≤ j ∧ j < 2 ^ 62 ∧ 0 < c ∧ c < 1000 then .ok ⟨[], (List.range ((j - i + c - 1) / c).toNat).map fun (k : Nat) => D.int (i + (k : Int) * c), true⟩ S else .no := (rfl)
theorem rkD_some (i j : Int) : rkD (some i) (some j) S = if -(2 ^ 62) ≤ i ∧ i < 2 ^ 62 ∧ -(2 ^ 62) ≤ j ∧ j < 2 ^ 62 then .ok ⟨[], (List.range (i - j).toNat).map fun (k : Nat) => D.int (i + (k : Int) * (-1)), true⟩ S else .no := (rfl)
theorem skO_some (fd : Fd) (x : O R) : skO (some fd) x = if isFst fd = true then x else .no := (rfl)
theorem hdO_f (x y : O Flow) : hdO (some false) x y = y := (rfl)
theorem hdO_n (y : O Flow) : hdO (some true) (.ok (.next r) S) y = .ok (.next r) S := (rfl)
theorem hdO_t (x : R) (y : O Flow) : hdO (some true) (.ok (.ret x) S) y = .ok (.ret x) S := (rfl)
theorem hdO_b (y : O Flow) : hdO (some true) (.ok (.brk r) S) y = .ok (.brk r) S := (rfl)
theorem hdO_c (y : O Flow) : hdO (some true) (.ok (.cont r) S) y = .ok (.cont r) S := (rfl)
def kfld (P : Pg) (f : Str) (x : R) (S : Sto) : O R := rfO x fun a => insO S[a]? fun c fs => if (P.ini c).isSome = true then .of S ((getA f fs).map .v) else .no
theorem qfld (f : Str) (x : R) : kfld P f x S = rfO x fun a => insO S[a]? fun c fs => if (P.ini c).isSome = true then .of S ((getA f fs).map .v) else .no := (rfl)
theorem e_fld (o : E) (f : Str) : evE P rc (.fld o f) r S = (evE P rc o r S).bind (kfld P f) := by
  show ((evE P rc o r S).bind fun x S => (match x with | .v (.ref a) => (match S[a]? with | some (.ins c fs) => _ | _ => _) | _ => _)) = _
  unfold kfld rfO insO
  rfl
def kmth2  (rc : Nat → List D → Sto → O R) (f a : Nat) (x : (List D)) (S : Sto) : O R := rc f (.ref a :: x) S
theorem qmth2 (rc : Nat → List D → Sto → O R) (f a : Nat) (x : (List D)) : kmth2 rc f a x S = rc f (.ref a :: x) S := (rfl)
def kmth (P : Pg) (rc : Nat → List D → Sto → O R) (m : Str) (es : Es) (r : Loc) (x : R) (S : Sto) : O R := rfO x fun a => insO S[a]? fun c fs => mtO (getA m fs) (P.mt c m) fun f => (evEs P rc es r S).bind (kmth2 rc f a)
theorem qmth (m : Str) (es : Es)  (x : R) : kmth P rc m es r x S = rfO x fun a => insO S[a]? fun c fs => mtO (getA m fs) (P.mt c m) fun f => (evEs P rc es r S).bind (kmth2 rc f a) := (rfl)
theorem e_mth (m : Str) (o : E) (es : Es) : evE P rc (.mth m o es) r S = (evE P rc o r S).bind (kmth P rc m es r) := by
  show ((evE P rc o r S).bind fun x S => (match x with | .v (.ref a) => (match S[a]? with | some (.ins c fs) => (match getA m fs, P.mt c m with | none, some f => _ | _, _ => _) | _ => _) | _ => _)) = _
  unfold kmth rfO insO mtO
  rfl
def kmk2 (n : Nat) (x : R) (S : Sto) : O R := match x with
  | .v .non => .ok (.v (.ref n)) S
  | _ => .no
theorem qmk2 (n : Nat) : kmk2 n (.v .non) S = .ok (.v (.ref n)) S := (rfl)
def kmk (P : Pg) (rc : Nat → List D → Sto → O R) (c : Nat) (x : (List D)) (S : Sto) : O R := nO (P.ini c) fun f => (rc f (.ref S.length :: x) (S ++ [.ins c []])).bind (kmk2 S.length)
theorem qmk (c : Nat) (x : (List D)) : kmk P rc c x S = nO (P.ini c) fun f => (rc f (.ref S.length :: x) (S ++ [.ins c []])).bind (kmk2 S.length) := (rfl)
theorem e_mk (c : Nat) (es : Es) : evE P rc (.mk c es) r S = (evEs P rc es r S).bind (kmk P rc c) := by
  show ((evEs P rc es r S).bind fun ds S => (match P.ini c with | some f => (rc f (.ref S.length :: ds) (S ++ [.ins c []])).bind (fun x S' => (match x with | .v .non => _ | _ => _)) | none => _)) = _
  unfold kmk nO kmk2
  rfl
def kasfb (P : Pg) (f : Str) (r : Loc) (d : D) (x : R) (S : Sto) : O Flow := rfO x fun a => insO S[a]? fun c fs => if fs.length < 1000 ∧ noL d = true ∧ (P.ini c).isSome = true then .ok (.next r) (S.set a (.ins c (putA f d fs))) else .no
theorem qasfb (f : Str)  (d : D) (x : R) : kasfb P f r d x S = rfO x fun a => insO S[a]? fun c fs => if fs.length < 1000 ∧ noL d = true ∧ (P.ini c).isSome = true then .ok (.next r) (S.set a (.ins c (putA f d fs))) else .no := (rfl)
def kasfa (P : Pg) (rc : Nat → List D → Sto → O R) (o : E) (f : Str) (r : Loc) (x : D) (S : Sto) : O Flow := flowO r (evE P rc o r S) (kasfb P f r x)
theorem qasfa (o : E) (f : Str)  (x : D) : kasfa P rc o f r x S = flowO r (evE P rc o r S) (kasfb P f r x) := (rfl)
theorem z_asgF (o e : E) (f : Str) : evS P rc (.asgF o f e) r S = flowO r (valO (evE P rc e r S)) (kasfa P rc o f r) := by
  show (flowO r (valO (evE P rc e r S)) fun d S => flowO r (evE P rc o r S) fun y S => (match y with | .v (.ref a) => (match S[a]? with | some (.ins c fs) => _ | _ => _) | _ => _)) = _
  unfold kasfa kasfb rfO insO
  rfl
def krcb  (c : Int) (o : R) (x : R) (S : Sto) : O Src := rkO (intR o) (intR x) c S
theorem qrcb (c : Int) (o : R) (x : R) : krcb c o x S = rkO (intR o) (intR x) c S := (rfl)
def krca (P : Pg) (rc : Nat → List D → Sto → O R) (b : E) (c : Int) (r : Loc) (x : R) (S : Sto) : O Src := (evE P rc b r S).bind (krcb c x)
theorem qrca (b : E) (c : Int)  (x : R) : krca P rc b c r x S = (evE P rc b r S).bind (krcb c x) := (rfl)
theorem it_rg3 (a b : E) (c : Int) : evIt P rc (.rg3 a b c) r S = (evE P rc a r S).bind (krca P rc b c r) := (rfl)
def krdb  (o : R) (x : R) (S : Sto) : O Src := rkD (intR o) (intR x) S
theorem qrdb (o : R) (x : R) : krdb o x S = rkD (intR o) (intR x) S := (rfl)
def krda (P : Pg) (rc : Nat → List D → Sto → O R) (b : E) (r : Loc) (x : R) (S : Sto) : O Src := (evE P rc b r S).bind (krdb x)
theorem qrda (b : E)  (x : R) : krda P rc b r x S = (evE P rc b r S).bind (krdb x) := (rfl)
theorem it_rgd (a b : E) : evIt P rc (.rgd a b) r S = (evE P rc a r S).bind (krda P rc b r) := (rfl)
def ksrk   (x : R) (S : Sto) : O R := O.of S (srtkR S x)
theorem qsrk  (x : R) : ksrk  x S = O.of S (srtkR S x) := (rfl)
theorem e_srtk (f : Nat) (a : E) : evE P rc (.srtk f a) r S = skO (P.fn f) ((evE P rc a r S).bind ksrk) := (rfl)
theorem hs_nil (k : Nat) : evHs P rc .nil k r S = .ok (.raise k r) S := (rfl)
theorem hs_cons (j : Nat) (b : Ss) (hs : Hs) (k : Nat) : evHs P rc (.cons j b hs) k r S = hdO (P.sub j k) (evSs P rc b r S) (evHs P rc hs k r S) := (rfl)
def orO : Option Bool → Option Bool → Option Bool
  | some x, some y => some (x || y)
  | _, _ => none
theorem hs_two (i j : Nat) (b : Ss) (hs : Hs) (k : Nat) : evHs P rc (.two i j b hs) k r S = hdO (orO (P.sub i k) (P.sub j k)) (evSs P rc b r S) (evHs P rc hs k r S) := by
  rw [evHs]
  cases P.sub i k with
  | none => rfl
  | some x =>
    cases P.sub j k with
    | none => rfl
    | some y => cases x <;> cases y <;> rfl
theorem z_pass : evS P rc .pass r S = .ok (.next r) S := (rfl)
theorem z_brk : evS P rc .brk r S = .ok (.brk r) S := (rfl)
theorem z_cont : evS P rc .cont r S = .ok (.cont r) S := (rfl)
theorem zz_nil : evSs P rc .nil r S = .ok (.next r) S := (rfl)
theorem zz_cons (s : Pl.S) (ss : Ss) : evSs P rc (.cons s ss) r S = sqO (evS P rc s r S) (evSs P rc ss) := (rfl)
theorem end_n {S' : Sto} : endF false S (.ok (.next r) S') = .ok (.v .non) S' := (rfl)
theorem end_t {S' : Sto} (x : R) : endF false S (.ok (.ret x) S') = .ok x S' := (rfl)
theorem end_r {S' : Sto} (k : Nat) : endF false S (.ok (.raise k r) S') = .ex k S' := (rfl)
theorem end_ite {p : Prop} [Decidable p] (x y : O Flow) : endF false S (if p then x else y) = if p then endF false S x else endF false S y := by split <;> rfl
theorem call_eq {P : Pg} {n f : Nat} {fd : Fd} (h : P.fn f = some fd) {ds : List D} (hl : ds.length = fd.np) : callF P (n + 1) f ds S = endF fd.tr S (evSs P (callF P n) fd.body (ds.map .v ++ List.replicate (fd.ns - fd.np) .un) S) := by
  simp only [callF, h, hl, if_true]
theorem atI_n {α : Type} (xs : List α) (n : Nat) : L2.atI xs (no_index (OfNat.ofNat n) : Int) = xs[n]? := by
  show L2.atI xs (n : Int) = _
  unfold L2.atI L2.ixN
  by_cases h : n < xs.length
  · rw [if_pos (by omega), if_pos (by omega)]
    rfl
  · rw [if_pos (by omega), if_neg (by omega), List.getElem?_eq_none (by omega)]
    rfl
theorem atI_cast {α : Type} (xs : List α) (n : Nat) : L2.atI xs (n : Int) = xs[n]? := atI_n xs n
theorem mulOk_r {i j : Int} (h : -(2 ^ 64) < j ∧ j < 2 ^ 64) : mulOk i j := .inl (.inr h)
theorem mulOk_x {i j : Int} (h : -(2 ^ 64) < i ∧ i < 2 ^ 64) : mulOk i j := .inl (.inl h)
theorem mulOk_l (i : Int) (n : Nat) (h : (n < 18446744073709551616) = True) : mulOk i (no_index (OfNat.ofNat n)) = True := eq_true (mulOk_r ⟨by have := of_eq_true h; show (-(2 ^ 64) : Int) < (n : Int); omega, by have := of_eq_true h; show (n : Int) < 2 ^ 64; omega⟩)
theorem mulOk_m (i x : Int) (n : Nat) (h : (n < 18446744073709551615) = True) (h0 : (0 < n) = True) : mulOk i (x % (no_index (OfNat.ofNat n)) + 1) = True := eq_true (mulOk_r (by
  have h := of_eq_true h
  have h0 := of_eq_true h0
  show -(2 ^ 64 : Int) < x % (n : Int) + 1 ∧ x % (n : Int) + 1 < 2 ^ 64
  have h1 := Int.emod_nonneg x (b := (n : Int)) (by omega)
  have h2 := Int.emod_lt_of_pos x (b := (n : Int)) (by omega)
  omega))
theorem lg10 (n : Nat) (h : (n < 18446744073709551616) = True) : (n.log2 < 9000) = True := eq_true (by
  have h := of_eq_true h
  by_cases e : n = 0
  · subst e; decide
  · have : n.log2 < 64 := (Nat.log2_lt e).mpr h
    omega)
theorem natAbs_lit (n : Nat) : (no_index (OfNat.ofNat n) : Int).natAbs = n := rfl
theorem natAbs_cast (n : Nat) : (n : Int).natAbs = n := rfl
theorem if_andB {p : Prop} [Decidable p] {b : Bool} : (if p then O.ok (R.v (.bl b)) S else .ok (.v (.bl false)) S) = .ok (.v (.bl (decide p && b))) S := by by_cases p <;> simp [*]
theorem if_orB {p : Prop} [Decidable p] {b : Bool} : (if p then O.ok (R.v (.bl true)) S else .ok (.v (.bl b)) S) = .ok (.v (.bl (decide p || b))) S := by by_cases p <;> simp [*]
theorem bind_ite {α β : Type} {p : Prop} [Decidable p] (x y : O α) (f : α → Sto → O β) : (if p then x else y).bind f = if p then x.bind f else y.bind f := by split <;> rfl
theorem flow_ite {α : Type} {p : Prop} [Decidable p] (x y : O α) (f : α → Sto → O Flow) : flowO r (if p then x else y) f = if p then flowO r x f else flowO r y f := by split <;> rfl
theorem val_ite {p : Prop} [Decidable p] (x y : O R) : valO (if p then x else y) = if p then valO x else valO y := by split <;> rfl
theorem bool_ite {p : Prop} [Decidable p] (x y : O R) : boolO (if p then x else y) = if p then boolO x else boolO y := by split <;> rfl
theorem b_add (i j : Int) : binR .add S (.v (.int i)) (.v (.int j)) = some (.v (.int (i + j))) := (rfl)
theorem b_sub (i j : Int) : binR .sub S (.v (.int i)) (.v (.int j)) = some (.v (.int (i - j))) := (rfl)
theorem b_mul (i j : Int) : binR .mul S (.v (.int i)) (.v (.int j)) = if mulOk i j then some (.v (.int (i * j))) else none := (rfl)
theorem b_mod (i j : Int) : binR .mod S (.v (.int i)) (.v (.int j)) = if 0 < j then some (.v (.int (i % j))) else none := (rfl)
theorem b_fdiv (i j : Int) : binR .fdiv S (.v (.int i)) (.v (.int j)) = if 0 < j ∧ j.natAbs.log2 < 9000 then some (.v (.int (i / j))) else none := (rfl)
theorem b_pow (i j : Int) : binR .pow S (.v (.int i)) (.v (.int j)) = if 0 ≤ j ∧ j ≤ 1000000 ∧ i.natAbs < 2 ^ 64 then some (.v (.int (i ^ j.toNat))) else none := (rfl)
theorem c_lt (i j : Int) : cmpR .lt S (.v (.int i)) (.v (.int j)) = some (decide (i < j)) := (rfl)
theorem c_le (i j : Int) : cmpR .le S (.v (.int i)) (.v (.int j)) = some (decide (i ≤ j)) := (rfl)
theorem c_gt (i j : Int) : cmpR .gt S (.v (.int i)) (.v (.int j)) = some (decide (j < i)) := (rfl)
theorem c_ge (i j : Int) : cmpR .ge S (.v (.int i)) (.v (.int j)) = some (decide (j ≤ i)) := (rfl)
theorem c_eq (x y : R) : cmpR .eq S x y = eqR S x y := (rfl)
theorem c_ne (x y : R) : cmpR .ne S x y = (eqR S x y).map (!·) := (rfl)
theorem c_in (x y : R) : cmpR .inn S x y = inR S x y := (rfl)
theorem c_nin (x y : R) : cmpR .nin S x y = (inR S x y).map (!·) := (rfl)
theorem eqv_int (i j : Int) : PyData.eqv (.int i) (.int j) = decide (i = j) := by
  unfold PyData.eqv
  first | rfl | simp
theorem eqR_int (i j : Int) : eqR S (.v (.int i)) (.v (.int j)) = some (decide (i = j)) := by
  show (if PySem.SeqAt.shaped (.int i) && PySem.SeqAt.shaped (.int j) then some (PyData.eqv (.int i) (.int j)) else none) = _
  rw [eqv_int]
  rfl
theorem intR_i (i : Int) : intR (.v (.int i)) = some i := (rfl)
theorem not_some (b : Bool) : (some b).map (!·) = some (!b) := (rfl)
theorem brwL_f (ds : List D) : brwL false ds = true := (rfl)
theorem brwB_f (d : D) : brwB false d = true := (rfl)
theorem sqOf_l (ds : List D) : sqOf S (.l ds) = some ds := (rfl)
theorem sqOf_tup (ds : List D) : sqOf S (.v (.tup ds)) = some ds := (rfl)
theorem sqOf_tpk (ds : List D) : sqOf S (.v (.tpk ds)) = some ds := (rfl)
theorem sqOf_lst (ds : List D) : sqOf S (.v (.lst ds)) = some ds := (rfl)
theorem sqOf_lsk (ds : List D) : sqOf S (.v (.lsk ds)) = some ds := (rfl)
theorem lsOf_lst (ds : List D) : lsOf S (.v (.lst ds)) = some ds := (rfl)
theorem lsOf_lsk (ds : List D) : lsOf S (.v (.lsk ds)) = some ds := (rfl)
theorem lsOf_l (ds : List D) : lsOf S (.l ds) = some ds := (rfl)
theorem revR_l (ds : List D) : revR S (.l ds) = some (.l ds.reverse) := (rfl)
theorem revR_lst (ds : List D) : revR S (.v (.lst ds)) = some (.l ds.reverse) := (rfl)
theorem revR_tup (ds : List D) : revR S (.v (.tup ds)) = some (.v (.tup ds.reverse)) := (rfl)
theorem revR_ref (a : Nat) : revR S (.v (.ref a)) = (lsOf S (.v (.ref a))).map fun ds => .l ds.reverse := (rfl)
theorem lmOf_l (ds : List D) : lmOf S (.l ds) = some ds := (rfl)
theorem lmOf_lst (ds : List D) : lmOf S (.v (.lst ds)) = some ds := (rfl)
theorem len_tup (ds : List D) : biR .len S [.v (.tup ds)] = some (.v (.int ds.length)) := (rfl)
theorem ix_tup (ds : List D) (i : Int) : ixR S (.v (.tup ds)) (.v (.int i)) = (L2.atI ds i).map .v := (rfl)
theorem len_tpk (ds : List D) : biR .len S [.v (.tpk ds)] = some (.v (.int ds.length)) := (rfl)
theorem ix_tpk (ds : List D) (i : Int) : ixR S (.v (.tpk ds)) (.v (.int i)) = (L2.atI ds i).map .v := (rfl)
theorem len_lst (ds : List D) : biR .len S [.v (.lst ds)] = some (.v (.int ds.length)) := (rfl)
theorem ix_lst (ds : List D) (i : Int) : ixR S (.v (.lst ds)) (.v (.int i)) = (L2.atI ds i).map .v := (rfl)
theorem len_lsk (ds : List D) : biR .len S [.v (.lsk ds)] = some (.v (.int ds.length)) := (rfl)
theorem ix_lsk (ds : List D) (i : Int) : ixR S (.v (.lsk ds)) (.v (.int i)) = (L2.atI ds i).map .v := (rfl)
theorem len_l (ds : List D) : biR .len S [.l ds] = some (.v (.int ds.length)) := (rfl)
theorem ix_l (ds : List D) (i : Int) : ixR S (.l ds) (.v (.int i)) = (L2.atI ds i).map .v := (rfl)
theorem src_tup (ds : List D) : srcOf S (.v (.tup ds)) = some ⟨[], ds, false⟩ := (rfl)
theorem src_lst (ds : List D) : srcOf S (.v (.lst ds)) = some ⟨[], ds, false⟩ := (rfl)
theorem src_lsk (ds : List D) : srcOf S (.v (.lsk ds)) = some ⟨[], ds, false⟩ := (rfl)
theorem src_l (ds : List D) : srcOf S (.l ds) = some ⟨[], ds, false⟩ := (rfl)
theorem ty_non : tyR S (.v (.non)) = some "NoneType" := (rfl)
theorem ty_bl (b : Bool) : tyR S (.v (.bl b)) = some "bool" := (rfl)
theorem ty_int (i : Int) : tyR S (.v (.int i)) = some "int" := (rfl)
theorem ty_str (x : Str) : tyR S (.v (.str x)) = some "str" := (rfl)
theorem ty_tup (ds : List D) : tyR S (.v (.tup ds)) = some "tuple" := (rfl)
theorem ty_tpk (ds : List D) : tyR S (.v (.tpk ds)) = some "tuple" := (rfl)
theorem ty_lst (ds : List D) : tyR S (.v (.lst ds)) = some "list" := (rfl)
theorem ty_lsk (ds : List D) : tyR S (.v (.lsk ds)) = some "list" := (rfl)
theorem ty_l (ds : List D) : tyR S (.l ds) = some "list" := (rfl)
theorem min_i (i j : Int) : biR .min2 S [.v (.int i), .v (.int j)] = some (.v (.int (min i j))) := by
  have : (if j < i then j else i) = min i j := by
    by_cases h : j < i
    · rw [if_pos h]; omega
    · rw [if_neg h]; omega
  rw [← this]
  rfl
theorem max_i (i j : Int) : biR .max2 S [.v (.int i), .v (.int j)] = some (.v (.int (max i j))) := by
  have : (if j > i then j else i) = max i j := by
    by_cases h : j > i
    · rw [if_pos h]; omega
    · rw [if_neg h]; omega
  rw [← this]
  rfl
theorem cat_ll (a b : List D) : binR .add S (.l a) (.l b) = if a.length + b.length ≤ sizeLine then some (.l (a ++ b)) else none := (rfl)
theorem cat_ls (a b : List D) : binR .add S (.l a) (.v (.lst b)) = if a.length + b.length ≤ sizeLine then some (.l (a ++ b)) else none := (rfl)
theorem cat_sl (a b : List D) : binR .add S (.v (.lst a)) (.l b) = if a.length + b.length ≤ sizeLine then some (.l (a ++ b)) else none := (rfl)
theorem cat_ss (a b : List D) : binR .add S (.v (.lst a)) (.v (.lst b)) = if a.length + b.length ≤ sizeLine then some (.l (a ++ b)) else none := (rfl)
theorem cat_tt (a b : List D) : binR .add S (.v (.tup a)) (.v (.tup b)) = if a.length + b.length ≤ sizeLine then some (.v (.tup (a ++ b))) else none := (rfl)
theorem abs_i (i : Int) : biR .abs S [.v (.int i)] = some (.v (.int (if i < 0 then -i else i))) := (rfl)
theorem list_tup (ds : List D) : biR .list S [.v (.tup ds)] = some (.l ds) := (rfl)
theorem list_tpk (ds : List D) : biR .list S [.v (.tpk ds)] = some (.l ds) := (rfl)
theorem list_lst (ds : List D) : biR .list S [.v (.lst ds)] = some (.l ds) := (rfl)
theorem list_lsk (ds : List D) : biR .list S [.v (.lsk ds)] = some (.l ds) := (rfl)
theorem list_l (ds : List D) : biR .list S [.l ds] = some (.l ds) := (rfl)
theorem tuple_tup (ds : List D) : biR .tuple S [.v (.tup ds)] = some (.v (.tup ds)) := (rfl)
theorem tuple_lst (ds : List D) : biR .tuple S [.v (.lst ds)] = some (.v (.tup ds)) := (rfl)
theorem tuple_lsk (ds : List D) : biR .tuple S [.v (.lsk ds)] = some (.v (.tup ds)) := (rfl)
theorem tuple_l (ds : List D) : biR .tuple S [.l ds] = some (.v (.tup ds)) := (rfl)
theorem is_non_int : isiB "NoneType" .int = false := by decide
theorem is_non_bool : isiB "NoneType" .bool = false := by decide
theorem is_non_str : isiB "NoneType" .str = false := by decide
theorem is_non_tup : isiB "NoneType" .tup = false := by decide
theorem is_non_lst : isiB "NoneType" .lst = false := by decide
theorem is_bl_int : isiB "bool" .int = true := by decide
theorem is_bl_bool : isiB "bool" .bool = true := by decide
theorem is_bl_str : isiB "bool" .str = false := by decide
theorem is_bl_tup : isiB "bool" .tup = false := by decide
theorem is_bl_lst : isiB "bool" .lst = false := by decide
theorem is_int_int : isiB "int" .int = true := by decide
theorem is_int_bool : isiB "int" .bool = false := by decide
theorem is_int_str : isiB "int" .str = false := by decide
theorem is_int_tup : isiB "int" .tup = false := by decide
theorem is_int_lst : isiB "int" .lst = false := by decide
theorem is_str_int : isiB "str" .int = false := by decide
theorem is_str_bool : isiB "str" .bool = false := by decide
theorem is_str_str : isiB "str" .str = true := by decide
theorem is_str_tup : isiB "str" .tup = false := by decide
theorem is_str_lst : isiB "str" .lst = false := by decide
theorem is_tup_int : isiB "tuple" .int = false := by decide
theorem is_tup_bool : isiB "tuple" .bool = false := by decide
theorem is_tup_str : isiB "tuple" .str = false := by decide
theorem is_tup_tup : isiB "tuple" .tup = true := by decide
theorem is_tup_lst : isiB "tuple" .lst = false := by decide
theorem is_lst_int : isiB "list" .int = false := by decide
theorem is_lst_bool : isiB "list" .bool = false := by decide
theorem is_lst_str : isiB "list" .str = false := by decide
theorem is_lst_tup : isiB "list" .tup = false := by decide
theorem is_lst_lst : isiB "list" .lst = true := by decide
theorem eqv_bool (i j : Bool) : PyData.eqv (.bool i) (.bool j) = decide (i = j) := by
  unfold PyData.eqv
  first | rfl | (cases i <;> cases j <;> rfl) | simp
theorem eqv_str (i j : Str) : PyData.eqv (.str i) (.str j) = decide (i = j) := by
  unfold PyData.eqv
  first | rfl | simp
theorem eqR_bl (i j : Bool) : eqR S (.v (.bl i)) (.v (.bl j)) = some (decide (i = j)) := by
  show (if PySem.SeqAt.shaped (.bool i) && PySem.SeqAt.shaped (.bool j) then some (PyData.eqv (.bool i) (.bool j)) else none) = _
  rw [eqv_bool]
  rfl
theorem eqR_non : eqR S (.v .non) (.v .non) = some true := by
  show (if PySem.SeqAt.shaped .none && PySem.SeqAt.shaped .none then some (PyData.eqv .none .none) else none) = _
  simp only [PyData.eqv]
  rfl
theorem eqR_str {i j : Str} (hi : PySem.SeqAt.shaped (.str i) = true) (hj : PySem.SeqAt.shaped (.str j) = true) : eqR S (.v (.str i)) (.v (.str j)) = some (decide (i = j)) := by
  show (if PySem.SeqAt.shaped (.str i) && PySem.SeqAt.shaped (.str j) then some (PyData.eqv (.str i) (.str j)) else none) = _
  rw [eqv_str, hi, hj]
  rfl
theorem sz0 : (0 ≤ sizeLine) = True := by simp only [sizeLine]; decide
theorem sz1 : (1 ≤ sizeLine) = True := by simp only [sizeLine]; decide
theorem sz2 : (2 ≤ sizeLine) = True := by simp only [sizeLine]; decide
theorem sz3 : (3 ≤ sizeLine) = True := by simp only [sizeLine]; decide
theorem sz4 : (4 ≤ sizeLine) = True := by simp only [sizeLine]; decide
theorem sz5 : (5 ≤ sizeLine) = True := by simp only [sizeLine]; decide
theorem sz6 : (6 ≤ sizeLine) = True := by simp only [sizeLine]; decide
theorem sz7 : (7 ≤ sizeLine) = True := by simp only [sizeLine]; decide
theorem sz8 : (8 ≤ sizeLine) = True := by simp only [sizeLine]; decide
theorem sz9 : (9 ≤ sizeLine) = True := by simp only [sizeLine]; decide
theorem sz10 : (10 ≤ sizeLine) = True := by simp only [sizeLine]; decide
theorem sz11 : (11 ≤ sizeLine) = True := by simp only [sizeLine]; decide
theorem sz12 : (12 ≤ sizeLine) = True := by simp only [sizeLine]; decide
theorem sz13 : (13 ≤ sizeLine) = True := by simp only [sizeLine]; decide
theorem sz14 : (14 ≤ sizeLine) = True := by simp only [sizeLine]; decide
theorem sz15 : (15 ≤ sizeLine) = True := by simp only [sizeLine]; decide
/-! ### loops -/
theorem kept_nil {S : Sto} : Kept [] S := fun p h => by simp at h
/-- it goes on at r, S -/
def Goes (o : O Flow) (r : Loc) (S : Sto) : Prop := o = .ok (.next r) S ∨ o = .ok (.cont r) S
theorem forL_nil {f : D → Loc → Sto → O Flow} : forL [] f [] r S = .ok (.next r) S := by simp only [forL, if_pos kept_nil]
theorem forL_go {f : D → Loc → Sto → O Flow} {x : D} {xs : List D} {r' : Loc} {S' : Sto} (h : Goes (f x r S) r' S') : forL [] f (x :: xs) r S = forL [] f xs r' S' := by
  rw [forL, if_pos kept_nil]
  rcases h with h | h <;> rw [h]
theorem forL_brk {f : D → Loc → Sto → O Flow} {x : D} {xs : List D} {r' : Loc} {S' : Sto} (h : f x r S = .ok (.brk r') S') : forL [] f (x :: xs) r S = .ok (.next r') S' := by
  rw [forL, if_pos kept_nil, h]
theorem forL_ret {f : D → Loc → Sto → O Flow} {x : D} {xs : List D} {y : R} {S' : Sto} (h : f x r S = .ok (.ret y) S') : forL [] f (x :: xs) r S = .ok (.ret y) S' := by
  rw [forL, if_pos kept_nil, h]
theorem forL_rse {f : D → Loc → Sto → O Flow} {x : D} {xs : List D} {k : Nat} {r' : Loc} {S' : Sto} (h : f x r S = .ok (.raise k r') S') : forL [] f (x :: xs) r S = .ok (.raise k r') S' := by
  rw [forL, if_pos kept_nil, h]
/-- a loop that changes a state step by step -/
theorem for_fold {σ α : Type} {f : D → Loc → Sto → O Flow} (L : σ → Loc) (Z : σ → Sto) (e : α → D) (step : σ → α → σ) (I : σ → List α → Prop) (hf : ∀ s x xs, I s (x :: xs) → Goes (f (e x) (L s) (Z s)) (L (step s x)) (Z (step s x)) ∧ I (step s x) xs) : ∀ (xs : List α) (s : σ), I s xs → forL [] f (xs.map e) (L s) (Z s) = .ok (.next (L (xs.foldl step s))) (Z (xs.foldl step s))
  | [], s, _ => by
    rw [List.map_nil, forL_nil]
    rfl
  | x :: xs, s, h => by
    obtain ⟨h1, h2⟩ := hf s x xs h
    rw [List.map_cons, forL_go h1]
    exact for_fold L Z e step I hf xs _ h2
/-- a loop by what stands before each turn -/
theorem for_inv {α : Type} {f : D → Loc → Sto → O Flow} (e : α → D) (I : List α → Loc → Sto → Prop) (hf : ∀ x xs r S, I (x :: xs) r S → ∃ r' S', Goes (f (e x) r S) r' S' ∧ I xs r' S') : ∀ (xs : List α) (r : Loc) (S : Sto), I xs r S → ∃ r' S', forL [] f (xs.map e) r S = .ok (.next r') S' ∧ I [] r' S'
  | [], r, S, h => ⟨r, S, by rw [List.map_nil, forL_nil], h⟩
  | x :: xs, r, S, h => by
    obtain ⟨r', S', h1, h2⟩ := hf x xs r S h
    obtain ⟨r2, S2, h3, h4⟩ := for_inv e I hf xs r' S' h2
    exact ⟨r2, S2, by rw [List.map_cons, forL_go h1, h3], h4⟩
/-- a loop that only carries an accumulator; j: what stands in the slots that nobody reads again -/
theorem for_acc {σ α J : Type} {f : D → Loc → Sto → O Flow} (e : α → D) (step : σ → α → σ) (L : σ → J → Loc) (I : σ → Prop) (xs : List α) (hf : ∀ s x j, x ∈ xs → I s → (∃ j', Goes (f (e x) (L s j) S) (L (step s x) j') S) ∧ I (step s x)) (s : σ) (j : J) (h0 : I s) : ∃ j', forL [] f (xs.map e) (L s j) S = .ok (.next (L (xs.foldl step s) j')) S ∧ I (xs.foldl step s) := by
  induction xs generalizing s j with
  | nil => exact ⟨j, by rw [List.map_nil, forL_nil]; rfl, h0⟩
  | cons x xs ih =>
    obtain ⟨⟨j', h1⟩, h2⟩ := hf s x j List.mem_cons_self h0
    obtain ⟨j2, h3, h4⟩ := ih (fun s x j hx => hf s x j (List.mem_cons_of_mem _ hx)) (step s x) j' h2
    exact ⟨j2, by rw [List.map_cons, forL_go h1, h3]; rfl, h4⟩
/-- a loop that appends -/
theorem for_app {α J : Type} {f : D → Loc → Sto → O Flow} (B : Nat) (e : α → D) (g : α → List D) (L : List D → J → Loc) (xs : List α) (hf : ∀ acc x j, x ∈ xs → acc.length + (g x).length ≤ B → ∃ j', Goes (f (e x) (L acc j) S) (L (acc ++ g x) j') S) (acc : List D) (j : J) (h0 : acc.length + (xs.flatMap g).length ≤ B) : ∃ j', forL [] f (xs.map e) (L acc j) S = .ok (.next (L (acc ++ xs.flatMap g) j')) S := by
  induction xs generalizing acc j with
  | nil => exact ⟨j, by rw [List.map_nil, forL_nil, List.flatMap_nil, List.append_nil]⟩
  | cons x xs ih =>
    rw [List.flatMap_cons, List.length_append] at h0
    obtain ⟨j', h1⟩ := hf acc x j List.mem_cons_self (by omega)
    obtain ⟨j2, h3⟩ := ih (fun acc x j hx => hf acc x j (List.mem_cons_of_mem _ hx)) (acc ++ g x) j' (by rw [List.length_append]; omega)
    exact ⟨j2, by rw [List.map_cons, forL_go h1, h3, List.flatMap_cons, List.append_assoc]⟩
theorem rangeD_map (lo hi : Int) : rangeD lo hi = (List.range (hi - lo).toNat).map fun (k : Nat) => D.int (lo + (k : Int)) := rfl
theorem lcL_nil {f : D → Sto → O (Option D)} {acc : List D} : lcL [] f [] acc S = .ok acc S := by simp only [lcL, if_pos kept_nil]
theorem lcL_some {f : D → Sto → O (Option D)} {x d : D} {xs acc : List D} {S' : Sto} (h : f x S = .ok (some d) S') (hl : acc.length < sizeLine) : lcL [] f (x :: xs) acc S = lcL [] f xs (acc ++ [d]) S' := by
  rw [lcL, if_pos kept_nil, h]
  exact if_pos hl
theorem lcL_none {f : D → Sto → O (Option D)} {x : D} {xs acc : List D} {S' : Sto} (h : f x S = .ok none S') : lcL [] f (x :: xs) acc S = lcL [] f xs acc S' := by
  rw [lcL, if_pos kept_nil, h]
/-- a comprehension that leaves the store as it is -/
theorem lc_map {α : Type} {f : D → Sto → O (Option D)} (e : α → D) (p : α → Bool) (g : α → D) : ∀ (xs : List α) (acc : List D), (∀ x ∈ xs, f (e x) S = .ok (if p x = true then some (g x) else none) S) → acc.length + xs.length ≤ sizeLine → lcL [] f (xs.map e) acc S = .ok (acc ++ (xs.filter p).map g) S
  | [], acc, _, _ => by
    rw [List.map_nil, lcL_nil, List.filter_nil, List.map_nil, List.append_nil]
  | x :: xs, acc, h, hl => by
    have h0 := h x List.mem_cons_self
    rw [List.length_cons] at hl
    rw [List.map_cons]
    cases e0 : p x with
    | true =>
      rw [e0, if_pos rfl] at h0
      rw [lcL_some h0 (by omega), lc_map e p g xs _ (fun y hy => h y (List.mem_cons_of_mem _ hy)) (by rw [List.length_append, List.length_singleton]; omega), List.filter_cons_of_pos e0, List.map_cons, List.append_assoc]
      rfl
    | false =>
      rw [e0, if_neg Bool.false_ne_true] at h0
      rw [lcL_none h0, lc_map e p g xs _ (fun y hy => h y (List.mem_cons_of_mem _ hy)) (by omega), List.filter_cons_of_neg (by rw [e0]; exact Bool.false_ne_true)]
theorem lc_all {α : Type} {f : D → Sto → O (Option D)} (e : α → D) (g : α → D) (xs : List α) (h : ∀ x ∈ xs, f (e x) S = .ok (some (g x)) S) (hl : xs.length ≤ sizeLine) : lcL [] f (xs.map e) [] S = .ok (xs.map g) S := by
  rw [lc_map e (fun _ => true) g xs [] (fun x hx => by rw [h x hx]; rfl) (by rw [List.length_nil]; omega), List.filter_eq_self.mpr (fun _ _ => rfl)]
  rfl
theorem lcx_nil {f : D → Sto → O D} {acc : List D} : lcxL [] f [] acc S = .ok acc S := by simp only [lcxL, if_pos kept_nil]
theorem lcx_ok {f : D → Sto → O D} {x d : D} {xs acc : List D} {S' : Sto} (h : f x S = .ok d S') (hl : acc.length < sizeLine) : lcxL [] f (x :: xs) acc S = lcxL [] f xs (acc ++ [d]) S' := by
  rw [lcxL, if_pos kept_nil, h]
  exact if_pos hl
theorem lcx_ex {f : D → Sto → O D} {x : D} {xs acc : List D} {k : Nat} {S' : Sto} (h : f x S = .ex k S') : lcxL [] f (x :: xs) acc S = .ex k S' := by
  rw [lcxL, if_pos kept_nil, h]
/-- what the items give, up to the first that raises -/
def lxOf {α : Type} (g : α → Option D) : List α → List D → Option (List D)
  | [], acc => some acc
  | x :: xs, acc => match g x with
    | some d => lxOf g xs (acc ++ [d])
    | none => none
theorem lcx_any {α : Type} {f : D → Sto → O D} {k : Nat} (e : α → D) (g : α → Option D) : ∀ (xs : List α) (acc : List D), (∀ x ∈ xs, f (e x) S = match g x with
    | some d => .ok d S
    | none => .ex k S) → acc.length + xs.length ≤ sizeLine → lcxL [] f (xs.map e) acc S = match lxOf g xs acc with
    | some ds => .ok ds S
    | none => .ex k S
  | [], acc, _, _ => lcx_nil
  | x :: xs, acc, h, hl => by
    have h0 := h x List.mem_cons_self
    rw [List.length_cons] at hl
    unfold lxOf
    cases e0 : g x with
    | none =>
      rw [e0] at h0
      exact lcx_ex h0
    | some d =>
      rw [e0] at h0
      refine (lcx_ok h0 (by omega)).trans ?_
      exact lcx_any e g xs _ (fun y hy => h y (List.mem_cons_of_mem _ hy)) (by rw [List.length_append, List.length_singleton]; omega)
theorem lxOf_all {α : Type} {g : α → Option D} (v : α → D) : ∀ (xs : List α) (acc : List D), (∀ x ∈ xs, g x = some (v x)) → lxOf g xs acc = some (acc ++ xs.map v)
  | [], acc, _ => by rw [lxOf, List.map_nil, List.append_nil]
  | x :: xs, acc, h => by
    unfold lxOf
    rw [h x List.mem_cons_self]
    refine (lxOf_all v xs _ fun y hy => h y (List.mem_cons_of_mem _ hy)).trans ?_
    rw [List.map_cons, List.append_assoc]
    rfl
theorem lxOf_none {α : Type} {g : α → Option D} : ∀ (xs : List α) (acc : List D), (∃ x ∈ xs, g x = none) → lxOf g xs acc = none
  | [], _, ⟨_, m, _⟩ => nomatch m
  | x :: xs, acc, ⟨y, m, e⟩ => by
    unfold lxOf
    cases e0 : g x with
    | none => rfl
    | some d =>
      refine lxOf_none xs _ ?_
      rcases List.mem_cons.mp m with z | z
      · rw [← z, e] at e0
        cases e0
      · exact ⟨y, z, e⟩
theorem lcx_all {α : Type} {f : D → Sto → O D} (e : α → D) (g : α → D) (xs : List α) (h : ∀ x ∈ xs, f (e x) S = .ok (g x) S) (hl : xs.length ≤ sizeLine) : lcxL [] f (xs.map e) [] S = .ok (xs.map g) S := by
  rw [lcx_any (k := 0) e (fun x => some (g x)) xs [] (fun x hx => h x hx) (by rw [List.length_nil]; omega), lxOf_all g xs [] fun _ _ => rfl]
  rfl
end
end
theorem mulOk_J {i j : Int} (h : -18446744073709551616 < j ∧ j < 18446744073709551616) : mulOk i j = True := eq_true (mulOk_r h)
theorem mulOk_I {i j : Int} (h : -18446744073709551616 < i ∧ i < 18446744073709551616) : mulOk i j = True := eq_true (mulOk_x h)
theorem pair_some {α : Type} (y : α) (S : Sto) : pairO (some (y, S)) = .ok y S := (rfl)
end Pl
/-! Values that can be compared. -/
namespace Pl
open PySem (Str PyData sizeLine)
theorem fm_one {α β : Type} (f : α → β) : ∀ l : List α, l.flatMap (fun x => [f x]) = l.map f
  | [] => rfl
  | x :: l => by rw [List.flatMap_cons, fm_one f l]; rfl
theorem sum_same {α : Type} (k : Nat) : ∀ l : List α, (l.map fun _ => k).sum = l.length * k
  | [] => by simp
  | x :: l => by rw [List.map_cons, List.sum_cons, sum_same k l, List.length_cons, Nat.add_mul]; omega
mutual
/-- numbers, texts, tuples and lists of such -/
def gd : D → Bool
  | .int _ => true
  | .str x => PyData.canLay0 (.str x)
  | .tup ds => decide (ds.length ≤ 16777216) && gds ds
  | .lst ds => decide (ds.length ≤ 16777216) && gds ds
  | _ => false
def gds : List D → Bool
  | [] => true
  | d :: ds => gd d && gds ds
end
mutual
def dp : D → Nat
  | .tup ds => dps ds + 1
  | .lst ds => dps ds + 1
  | .tpk ds => dps ds + 1
  | .lsk ds => dps ds + 1
  | _ => 0
def dps : List D → Nat
  | [] => 0
  | d :: ds => max (dp d) (dps ds)
end
mutual
theorem gd_py : ∀ (d : D), gd d = true → ∃ p, pyD d = some p ∧ p.canLay0 = true ∧ p.depth = dp d
  | .int i, _ => ⟨_, rfl, by simp only [PyData.canLay0], by simp only [PyData.depth, dp]⟩
  | .str x, h => ⟨_, rfl, h, by simp only [PyData.depth, dp]⟩
  | .tup ds, h => by
    obtain ⟨ps, h1, h2, h3⟩ := gds_py ds (Bool.and_eq_true_iff.mp (by simpa only [gd] using h)).2
    exact ⟨.tuple ps, by simp only [pyD, h1]; rfl, by simpa only [PyData.canLay0] using h2, by simp only [PyData.depth, dp, h3]⟩
  | .lst ds, h => by
    obtain ⟨ps, h1, h2, h3⟩ := gds_py ds (Bool.and_eq_true_iff.mp (by simpa only [gd] using h)).2
    exact ⟨.list ps, by simp only [pyD, h1]; rfl, by simpa only [PyData.canLay0] using h2, by simp only [PyData.depth, dp, h3]⟩
  | .non, h => by simp [gd] at h
  | .bl _, h => by simp [gd] at h
  | .dct _ _, h => by simp [gd] at h
  | .ref _, h => by simp [gd] at h
  | .fn _, h => by simp [gd] at h
  | .tpk _, h => by simp [gd] at h
  | .lsk _, h => by simp [gd] at h
  | .dck _ _, h => by simp [gd] at h
theorem gds_py : ∀ (ds : List D), gds ds = true → ∃ ps, pyDs ds = some ps ∧ PyData.canLayAll0 ps = true ∧ PyData.depthAll ps = dps ds
  | [], _ => ⟨[], rfl, by simp only [PyData.canLayAll0], by simp only [PyData.depthAll, dps]⟩
  | d :: ds, h => by
    simp only [gds, Bool.and_eq_true] at h
    obtain ⟨p, h1, h2, h3⟩ := gd_py d h.1
    obtain ⟨ps, h4, h5, h6⟩ := gds_py ds h.2
    exact ⟨p :: ps, by simp only [pyDs, h1, h4]; rfl, by simp only [PyData.canLayAll0, h2, h5]; rfl, by simp only [PyData.depthAll, dps, h3, h6]⟩
end
mutual
theorem gd_eq : ∀ (a b : D) (p q : PyData), gd a = true → gd b = true → pyD a = some p → pyD b = some q → (PyData.eqv p q = true ↔ a = b)
  | .int i, b, p, q, _, hb, ha, hq => by
    cases ha
    cases b <;> simp only [pyD, gd, Option.map_eq_some_iff, Option.some.injEq] at hq hb <;> first | (subst hq; simp [PyData.eqv]; done) | (obtain ⟨_, _, rfl⟩ := hq; simp [PyData.eqv]; done) | exact absurd hb Bool.false_ne_true
  | .str i, b, p, q, _, hb, ha, hq => by
    cases ha
    cases b <;> simp only [pyD, gd, Option.map_eq_some_iff, Option.some.injEq] at hq hb <;> first | (subst hq; simp [PyData.eqv]; done) | (obtain ⟨_, _, rfl⟩ := hq; simp [PyData.eqv]; done) | exact absurd hb Bool.false_ne_true
  | .tup as, b, p, q, g, hb, ha, hq => by
    simp only [pyD, Option.map_eq_some_iff] at ha
    obtain ⟨ps, h1, rfl⟩ := ha
    simp only [gd, Bool.and_eq_true] at g
    cases b with
    | tup bs =>
      simp only [pyD, Option.map_eq_some_iff] at hq
      obtain ⟨qs, h2, rfl⟩ := hq
      simp only [gd, Bool.and_eq_true] at hb
      rw [show PyData.eqv (.tuple ps) (.tuple qs) = PyData.eqvAll ps qs by simp only [PyData.eqv], gds_eq as bs ps qs g.2 hb.2 h1 h2]
      simp
    | _ => simp only [pyD, gd, Option.map_eq_some_iff, Option.some.injEq] at hq hb <;> first | (subst hq; simp [PyData.eqv]; done) | (obtain ⟨_, _, rfl⟩ := hq; simp [PyData.eqv]; done) | exact absurd hb Bool.false_ne_true
  | .lst as, b, p, q, g, hb, ha, hq => by
    simp only [pyD, Option.map_eq_some_iff] at ha
    obtain ⟨ps, h1, rfl⟩ := ha
    simp only [gd, Bool.and_eq_true] at g
    cases b with
    | lst bs =>
      simp only [pyD, Option.map_eq_some_iff] at hq
      obtain ⟨qs, h2, rfl⟩ := hq
      simp only [gd, Bool.and_eq_true] at hb
      rw [show PyData.eqv (.list ps) (.list qs) = PyData.eqvAll ps qs by simp only [PyData.eqv], gds_eq as bs ps qs g.2 hb.2 h1 h2]
      simp
    | _ => simp only [pyD, gd, Option.map_eq_some_iff, Option.some.injEq] at hq hb <;> first | (subst hq; simp [PyData.eqv]; done) | (obtain ⟨_, _, rfl⟩ := hq; simp [PyData.eqv]; done) | exact absurd hb Bool.false_ne_true
  | .non, _, _, _, h, _, _, _ => by simp [gd] at h
  | .bl _, _, _, _, h, _, _, _ => by simp [gd] at h
  | .dct _ _, _, _, _, h, _, _, _ => by simp [gd] at h
  | .ref _, _, _, _, h, _, _, _ => by simp [gd] at h
  | .fn _, _, _, _, h, _, _, _ => by simp [gd] at h
  | .tpk _, _, _, _, h, _, _, _ => by simp [gd] at h
  | .lsk _, _, _, _, h, _, _, _ => by simp [gd] at h
  | .dck _ _, _, _, _, h, _, _, _ => by simp [gd] at h
theorem gds_eq : ∀ (as bs : List D) (ps qs : List PyData), gds as = true → gds bs = true → pyDs as = some ps → pyDs bs = some qs → (PyData.eqvAll ps qs = true ↔ as = bs)
  | [], bs, ps, qs, _, hb, ha, hq => by
    cases ha
    cases bs with
    | nil =>
      cases hq
      simp [PyData.eqvAll]
    | cons b bs =>
      simp only [gds, Bool.and_eq_true] at hb
      obtain ⟨q, h1, _⟩ := gd_py b hb.1
      obtain ⟨qs', h2, _⟩ := gds_py bs hb.2
      simp only [pyDs, h1, h2, Option.map_some, Option.some.injEq] at hq
      subst hq
      simp [PyData.eqvAll]
  | a :: as, bs, ps, qs, g, hb, ha, hq => by
    simp only [gds, Bool.and_eq_true] at g
    obtain ⟨p, h1, _⟩ := gd_py a g.1
    obtain ⟨ps', h2, _⟩ := gds_py as g.2
    simp only [pyDs, h1, h2, Option.map_some, Option.some.injEq] at ha
    subst ha
    cases bs with
    | nil =>
      cases hq
      simp [PyData.eqvAll]
    | cons b bs =>
      simp only [gds, Bool.and_eq_true] at hb
      obtain ⟨q, h3, _⟩ := gd_py b hb.1
      obtain ⟨qs', h4, _⟩ := gds_py bs hb.2
      simp only [pyDs, h3, h4, Option.map_some, Option.some.injEq] at hq
      subst hq
      rw [show PyData.eqvAll (p :: ps') (q :: qs') = (PyData.eqv p q && PyData.eqvAll ps' qs') by simp only [PyData.eqvAll], Bool.and_eq_true, gd_eq a b p q g.1 hb.1 h1 h3, gds_eq as bs ps' qs' g.2 hb.2 h2 h4]
      simp
end
theorem pyR_v {S : Sto} {d : D} (h : gd d = true) : pyR S (.v d) = pyD d := by
  cases d <;> first | rfl | simp [gd] at h
theorem shaped_of {p : PyData} {n : Nat} (h : p.canLay0 = true) (h2 : p.depth = n) (h3 : n ≤ 64) : PySem.SeqAt.shaped p = true := by
  show (p.canLay0 && decide (p.depth ≤ 64)) = true
  rw [h, h2, decide_eq_true h3]
  rfl
open Classical in
theorem eqR_gd {S : Sto} {a b : D} (ha : gd a = true) (hb : gd b = true) (h1 : dp a ≤ 64) (h2 : dp b ≤ 64) : eqR S (.v a) (.v b) = some (decide (a = b)) := by
  obtain ⟨p, p1, p2, p3⟩ := gd_py a ha
  obtain ⟨q, q1, q2, q3⟩ := gd_py b hb
  unfold eqR
  rw [pyR_v ha, pyR_v hb, p1, q1]
  show (if PySem.SeqAt.shaped p && PySem.SeqAt.shaped q then some (PyData.eqv p q) else none) = _
  rw [shaped_of p2 p3 h1, shaped_of q2 q3 h2]
  have := gd_eq a b p q ha hb p1 q1
  by_cases e : a = b
  · rw [this.mpr e, decide_eq_true e]
    rfl
  · rw [decide_eq_false e, (Bool.eq_false_iff.mpr fun z => e (this.mp z) : PyData.eqv p q = false)]
    rfl
open Classical in
/-- x in a list, a tuple -/
theorem inR_gd {S : Sto} {a : D} {y : R} {ds : List D} (hy : ∀ z, y ≠ .v (.str z)) (hq : sqOf S y = some ds) (ha : gd a = true) (hb : gds ds = true) (h1 : dp a ≤ 64) (h2 : dps ds < 64) : inR S (.v a) y = some (decide (a ∈ ds)) := by
  obtain ⟨p, p1, p2, p3⟩ := gd_py a ha
  obtain ⟨qs, q1, q2, q3⟩ := gds_py ds hb
  have e0 : inR S (.v a) y = match sqOf S y with
    | some ds => match pyR S (.v a), pyDs ds with
      | some a, some bs => if PySem.SeqAt.shaped a && PySem.SeqAt.shaped (.list bs) then some (bs.any fun z => PyData.eqv z a) else none
      | _, _ => none
    | none => (dgR S y (.v a)).map Option.isSome := by
    unfold inR
    split
    · exact absurd rfl (hy _)
    · rfl
  rw [e0, hq]
  show (match pyR S (.v a), pyDs ds with
      | some a, some bs => if PySem.SeqAt.shaped a && PySem.SeqAt.shaped (.list bs) then some (bs.any fun z => PyData.eqv z a) else none
      | _, _ => none) = _
  rw [pyR_v ha, p1, q1]
  show (if PySem.SeqAt.shaped p && PySem.SeqAt.shaped (.list qs) then some (qs.any fun z => PyData.eqv z p) else none) = _
  rw [shaped_of p2 p3 h1, shaped_of (p := .list qs) (n := dps ds + 1) (by simpa only [PyData.canLay0] using q2) (by simp only [PyData.depth, q3]) (by omega)]
  have key : ∀ (ds : List D) (qs : List PyData), gds ds = true → pyDs ds = some qs → (qs.any fun z => PyData.eqv z p) = decide (a ∈ ds) := by
    intro ds
    induction ds with
    | nil =>
      intro qs _ h
      cases h
      simp
    | cons d ds ih =>
      intro qs g h
      simp only [gds, Bool.and_eq_true] at g
      obtain ⟨q, h3, _⟩ := gd_py d g.1
      obtain ⟨qs', h4, _⟩ := gds_py ds g.2
      simp only [pyDs, h3, h4, Option.map_some, Option.some.injEq] at h
      subst h
      rw [List.any_cons, ih qs' g.2 h4]
      have := gd_eq d a q p g.1 ha h3 p1
      by_cases e : d = a
      · rw [this.mpr e, e]
        simp
      · rw [(Bool.eq_false_iff.mpr fun z => e (this.mp z) : PyData.eqv q p = false)]
        simp [Ne.symm e]
  rw [key ds qs hb q1]
  rfl
end Pl
/-! Numbers in lists, texts. -/
namespace Pl
open PySem (Str PyData sizeLine)
open PySem
abbrev txD (l : List Nat) : D := .str (txS l)
/-! ### lists of numbers -/
def iD (c : List Int) : List D := c.map D.int
theorem iD_len (c : List Int) : (iD c).length = c.length := List.length_map _
theorem iD_app (c d : List Int) : iD c ++ iD d = iD (c ++ d) := (List.map_append ..).symm
theorem iD_snoc (c : List Int) (x : Int) : iD c ++ [.int x] = iD (c ++ [x]) := by
  unfold iD
  rw [List.map_append]
  rfl
theorem iD_nil : iD [] = [] := rfl
theorem atI_iD {c : List Int} {i : Int} (h0 : 0 ≤ i) (h1 : i < c.length) : L2.atI (iD c) i = some (.int (c.getD i.toNat 0)) := by
  unfold L2.atI L2.ixN iD
  rw [List.length_map, if_pos h0, if_pos h1]
  show (c.map D.int)[i.toNat]? = _
  rw [List.getElem?_map, List.getD_eq_getElem?_getD, List.getElem?_eq_getElem (by omega)]
  rfl
theorem ixN_ok {n : Nat} {i : Int} (h0 : 0 ≤ i) (h1 : i < n) : L2.ixN n i = some i.toNat := by
  unfold L2.ixN
  rw [if_pos h0, if_pos h1]
theorem set_iD (c : List Int) (j : Nat) (v : Int) : (iD c).set j (.int v) = iD (c.set j v) := (List.map_set ..).symm
theorem atI_last {c : List Int} (h : c ≠ []) : L2.atI (iD c) (-1) = some (.int (c.getLast h)) := by
  have h1 : 0 < c.length := List.length_pos_iff.mpr h
  unfold L2.atI L2.ixN iD
  rw [List.length_map, if_neg (by omega), if_pos (by omega)]
  show (c.map D.int)[(-1 + (c.length : Int)).toNat]? = _
  rw [show (-1 + (c.length : Int)).toNat = c.length - 1 by omega, List.getElem?_map, List.getElem?_eq_getElem (by omega), List.getLast_eq_getElem]
  rfl
theorem gds_iD : ∀ c : List Int, gds (iD c) = true
  | [] => rfl
  | x :: c => by
    show (gd (.int x) && gds (iD c)) = true
    rw [gds_iD c]
    rfl
theorem dps_iD : ∀ c : List Int, dps (iD c) = 0
  | [] => by simp [iD, dps]
  | x :: c => by
    show dps (D.int x :: iD c) = 0
    simp only [dps, dp, dps_iD c]
    rfl
theorem gd_iD {c : List Int} (h : c.length ≤ 16777216) : gd (.lst (iD c)) = true := by
  simp only [gd, gds_iD, iD_len, Bool.and_true, decide_eq_true_eq]
  exact h
theorem cut1 {α : Type} (x : α) (xs : List α) : cut (x :: xs) (some 1) none = xs := by
  unfold cut
  rw [HT.sIx_none]
  have : HT.sIx (x :: xs).length 0 (some 1) = 1 := by
    show (if (1 : Int) < 0 then ((1 : Int) + ((xs.length + 1 : Nat) : Int)).toNat else min (1 : Int).toNat (xs.length + 1)) = 1
    rw [if_neg (by omega)]
    show min 1 (xs.length + 1) = 1
    omega
  rw [this]
  simp
theorem slR_tup {S : Sto} (ds : List D) (lo hi : Option Int) : slR S (.v (.tup ds)) lo hi = some (.v (.tup (cut ds lo hi))) := rfl
theorem atI_lastD {c : List Int} (h : c ≠ []) : L2.atI (iD c) (-1) = some (.int (c.getLastD 0)) := by
  rw [atI_last h]
  cases c with
  | nil => exact absurd rfl h
  | cons x r => rfl
theorem iD_inj : ∀ {a b : List Int}, iD a = iD b → a = b
  | [], [], _ => rfl
  | [], _ :: _, h => by simp [iD] at h
  | _ :: _, [], h => by simp [iD] at h
  | x :: a, y :: b, h => by
    simp only [iD, List.map_cons, List.cons.injEq, D.int.injEq] at h
    rw [h.1, iD_inj (show iD a = iD b from h.2)]
theorem eqR_iD {S : Sto} {a b : List Int} (ha : a.length ≤ 16777216) (hb : b.length ≤ 16777216) : eqR S (.v (.lst (iD a))) (.v (.lst (iD b))) = some (decide (a = b)) := by
  rw [eqR_gd (gd_iD ha) (gd_iD hb) (by simp [dp, dps_iD]) (by simp [dp, dps_iD])]
  refine congrArg some (decide_eq_decide.mpr ⟨fun h => iD_inj (D.lst.inj h), fun h => by rw [h]⟩)
theorem eqR_nil {S : Sto} {a : List Int} (ha : a.length ≤ 16777216) : eqR S (.v (.lst (iD a))) (.l []) = some (decide (a = [])) := eqR_iD (S := S) (b := []) ha (by decide)
theorem lt_size {n : Nat} (h : n ≤ 1000000) : (n < sizeLine) = True := eq_true (Nat.lt_of_le_of_lt h (by decide))
/-! ### texts by their codes -/
theorem txS_len (l : List Nat) : (txS l).length = l.length := by simp [txS, Str.length]
theorem txS_cat (a b : List Nat) : txS a ++ txS b = txS (a ++ b) := SX.S_cat a b
theorem txS_inj {a b : List Nat} (h : txS a = txS b) : a = b := SX.S_inj h
/-- codes of signs -/
def okT (l : List Nat) : Bool := l.all fun c => decide (c < 1114112)
theorem okT_iff {l : List Nat} : okT l = true ↔ ∀ c ∈ l, c < 1114112 := by
  unfold okT
  rw [List.all_eq_true]
  exact ⟨fun h c hc => of_decide_eq_true (h c hc), fun h c hc => decide_eq_true (h c hc)⟩
theorem okT_lay {l : List Nat} (h : okT l = true) : PyData.canLay0 (.str (txS l)) = true := by
  unfold PyData.canLay0 PyData.strOk
  rw [← Array.all_toList]
  exact h
theorem okT_shaped {l : List Nat} (h : okT l = true) : PySem.SeqAt.shaped (.str (txS l)) = true := shaped_of (n := 0) (okT_lay h) (by simp only [PyData.depth]) (by omega)
theorem okT_app {a b : List Nat} (h : okT a = true) (k : okT b = true) : okT (a ++ b) = true := by
  unfold okT at h k ⊢
  rw [List.all_append, h, k]
  rfl
theorem okT_cons {c : Nat} {b : List Nat} (h : c < 1114112) (k : okT b = true) : okT (c :: b) = true := by
  unfold okT at k ⊢
  rw [List.all_cons, k, decide_eq_true h]
  rfl
theorem okT_sub {a b : List Nat} (h : okT b = true) (s : ∀ c ∈ a, c ∈ b) : okT a = true := okT_iff.mpr fun c hc => okT_iff.mp h c (s c hc)
theorem gd_t {l : List Nat} (h : okT l = true) : gd (txD l) = true := okT_lay h
section
variable {S : Sto}
theorem len_t {l : List Nat} (h : l.length ≤ 1000000) : biR .len S [.v (txD l)] = some (.v (.int l.length)) := by
  show (if (txS l).length ≤ sizeLine then some (R.v (.int (txS l).length)) else none) = _
  rw [txS_len, if_pos (Nat.le_trans h (by decide))]
theorem add_t {a b : List Nat} (h : a.length + b.length ≤ 1000000) : binR .add S (.v (txD a)) (.v (txD b)) = some (.v (txD (a ++ b))) := by
  show (if (txS a).length + (txS b).length ≤ sizeLine then some (R.v (.str (txS a ++ txS b))) else none) = _
  rw [txS_len, txS_len, if_pos (Nat.le_trans h (by decide)), txS_cat]
theorem sl_t {l : List Nat} {lo hi : Option Int} (h : l.length ≤ 1000000) : slR S (.v (txD l)) lo hi = some (.v (txD (cut l lo hi))) := by
  show (if (txS l).length ≤ sizeLine then some (R.v (.str ⟨(cut (txS l).cps.toList lo hi).toArray⟩)) else none) = _
  rw [txS_len, if_pos (Nat.le_trans h (by decide))]
  rfl
theorem ix_t {l : List Nat} {i : Int} (h : l.length ≤ 1000000) : ixR S (.v (txD l)) (.v (.int i)) = (L2.atI l i).map fun c => .v (txD [c]) := by
  show (if (txS l).length ≤ sizeLine then (L2.atI (txS l).cps.toList i).map (fun c => R.v (.str ⟨#[c]⟩)) else none) = _
  rw [txS_len, if_pos (Nat.le_trans h (by decide))]
  rfl
theorem eq_t {a b : List Nat} (ha : okT a = true) (hb : okT b = true) : eqR S (.v (txD a)) (.v (txD b)) = some (decide (a = b)) := by
  rw [eqR_str (okT_shaped ha) (okT_shaped hb)]
  exact congrArg some (decide_eq_decide.mpr ⟨txS_inj, fun h => by rw [h]⟩)
theorem in_t (c : Nat) (b : List Nat) : inR S (.v (txD [c])) (.v (txD b)) = some (decide (c ∈ b)) := rfl
theorem src_t (l : List Nat) : srcOf S (.v (txD l)) = some ⟨[], l.map fun c => txD [c], true⟩ := rfl
theorem ty_t (l : List Nat) : tyR S (.v (txD l)) = some "str" := rfl
theorem find_t (a b : List Nat) : bmR .find S (.v (txD a)) [txD b] = some (.v (.int (Txt.find (txS a) (txS b))), S) := rfl
theorem find_ok (a : List Nat) : bmOk .find S (.v (txD a)) = true := rfl
theorem join_ok (a : List Nat) : bmOk .join S (.v (txD a)) = true := rfl
theorem split_ok (a : List Nat) : bmOk .split S (.v (txD a)) = true := rfl
theorem strsD_t : ∀ ls : List (List Nat), strsD (ls.map txD) = some (ls.map txS)
  | [] => rfl
  | l :: ls => by
    rw [List.map_cons, List.map_cons]
    show (strsD (ls.map txD)).map (txS l :: ·) = _
    rw [strsD_t ls]
    rfl
theorem join_t {a : List Nat} {ls : List (List Nat)} (y : D) (hy : sqOf S (.v y) = some (ls.map txD)) (h : (ls.map List.length).sum + ls.length * a.length ≤ 16777216) : bmR .join S (.v (txD a)) [y] = some (.v (txD (TL.joinL a ls)), S) := by
  show (match sqOf S (.v y) with
    | some ds => match strsD ds with
      | some xs => if (xs.map (fun (x : Str) => x.length)).sum + xs.length * (txS a).length ≤ 16777216 then some (R.v (.str (PySem.Txt.join (txS a) xs)), S) else none
      | none => none
    | none => none) = _
  rw [hy]
  simp only [strsD_t]
  have e1 : (ls.map txS).map (fun (x : Str) => x.length) = ls.map List.length := by
    rw [List.map_map]
    exact List.map_congr_left fun (l : List Nat) _ => (txS_len l : (txS l).length = l.length)
  rw [e1, List.length_map, txS_len, if_pos h]
  have e2 : PySem.Txt.join (txS a) (ls.map txS) = txS (TL.joinL a ls) := SX.join_S a ls
  rw [e2]
theorem split_t {a b : List Nat} (hb : b ≠ []) (hk : b.all (· < 256) = true) (hl : a.length + 2 ≤ 1000000) : bmR .split S (.v (txD a)) [txD b] = some (.l ((TL.spl b 0 [] a).map txD), S) := by
  show (if ((txS b).length == 0) = false ∧ (txS a).length + 2 ≤ sizeLine then some (R.l ((PySem.Txt.split (txS a) (txS b)).map .str), S) else none) = _
  have e : ((txS b).length == 0) = false := by
    rw [txS_len]
    cases b with
    | nil => exact absurd rfl hb
    | cons x y => rfl
  rw [txS_len, if_pos ⟨e, Nat.le_trans (hl) (by decide)⟩, show PySem.Txt.split (txS a) (txS b) = (TL.spl b 0 [] a).map txS from SX.split_S hb hk, List.map_map]
  rfl
end
theorem joinL_ones : ∀ l : List Nat, TL.joinL [] (l.map fun c => [c]) = l
  | [] => rfl
  | [c] => rfl
  | c :: d :: l => by
    have := joinL_ones (d :: l)
    rw [List.map_cons] at this
    rw [List.map_cons, List.map_cons, TL.joinL, this]
    rfl
theorem sum_ones : ∀ l : List Nat, ((l.map fun c => [c]).map List.length).sum = l.length
  | [] => rfl
  | c :: l => by
    rw [List.map_cons, List.map_cons, List.sum_cons, sum_ones l]
    show 1 + l.length = l.length + 1
    omega
theorem cutA_le {α : Type} (l : List α) (lo hi : Option Int) : (cut l lo hi).length ≤ l.length := by
  unfold cut
  rw [List.length_take, List.length_drop]
  omega
theorem cut_mem {α : Type} {l : List α} {lo hi : Option Int} {x : α} (h : x ∈ cut l lo hi) : x ∈ l := List.mem_of_mem_drop (List.mem_of_mem_take h)
/-- one sign of some -/
theorem pick_t {S : Sto} {z : List Nat} {i : Int} (hz : z.length ≤ 100) (h0 : 0 ≤ i) (h1 : i < z.length) : ∃ c ∈ z, ixR S (.v (txD z)) (.v (.int i)) = some (.v (txD [c])) := by
  refine ⟨z[i.toNat]'(by omega), List.getElem_mem _, ?_⟩
  rw [ix_t (by omega)]
  unfold L2.atI
  rw [ixN_ok h0 h1]
  show (z[i.toNat]?).map _ = _
  rw [List.getElem?_eq_getElem (by omega)]
  rfl
/-- figures -/
def FG : List Nat := [48, 49, 50, 51, 52, 53, 54, 55, 56, 57]
theorem mem_FG {c : Nat} : c ∈ FG ↔ 48 ≤ c ∧ c ≤ 57 := by
  unfold FG
  simp only [List.mem_cons, List.not_mem_nil, or_false]
  omega
theorem at_one {a : List Nat} {c i : Nat} : PySem.StrLaws.At (txS a) (txS [c]) (txS a).length i ↔ a[i]? = some c := PySem.StrLaws.subAt_one (txS a) c i
theorem find_fig (c : Nat) : Txt.find (txS FG) (txS [c]) = if 48 ≤ c ∧ c ≤ 57 then (c : Int) - 48 else -1 := by
  have key : ∀ i : Nat, FG[i]? = some c ↔ (i < 10 ∧ c = i + 48) := by
    intro i
    by_cases hi : i < 10
    · have : FG[i]? = some (i + 48) := by
        rcases (show i = 0 ∨ i = 1 ∨ i = 2 ∨ i = 3 ∨ i = 4 ∨ i = 5 ∨ i = 6 ∨ i = 7 ∨ i = 8 ∨ i = 9 by omega) with e | e | e | e | e | e | e | e | e | e <;> subst e <;> rfl
      rw [this, Option.some.injEq]
      omega
    · rw [List.getElem?_eq_none (show FG.length ≤ i by show 10 ≤ i; omega)]
      constructor
      · intro h; cases h
      · intro h; omega
  unfold Txt.find
  rcases PySem.StrLaws.occ_head (txS FG) (txS [c]) 1 (Nat.le_refl 1) with ⟨h1, h2⟩ | ⟨i, r, h1, h2, h3⟩
  · rw [h1, if_neg]
    intro h
    exact h2 (c - 48) (at_one.mpr ((key _).mpr ⟨by omega, by omega⟩))
  · rw [h1]
    have := (key i).mp (at_one.mp h2)
    rw [if_pos (by omega)]
    show (i : Int) = _
    omega
/-- the number of a row of figures, or None -/
def figAll (l : List Nat) : Bool := l.all fun c => decide (48 ≤ c) && decide (c ≤ 57)
def numO (l : List Nat) : Option Int := if l = [] ∨ (l.head? = some 48 ∧ 1 < l.length) ∨ figAll l = false then none else some ((NumText.digitsVal l : Nat) : Int)
def oD : Option Int → D
  | some i => .int i
  | none => .non
theorem digitsVal_snoc (l : List Nat) (c : Nat) : NumText.digitsVal (l ++ [c]) = NumText.digitsVal l * 10 + (c - 48) := by
  unfold NumText.digitsVal
  rw [List.foldl_append]
  rfl
theorem txS_eq (a b : List Nat) : (txS a = txS b) = (a = b) := propext ⟨txS_inj, fun h => by rw [h]⟩
/-- a number's figures -/
abbrev numW (n : Nat) : List Nat := TL.numL n
theorem numW_ok (n : Nat) : okT (numW n) = true := okT_iff.mpr fun c hc => by have := TL.numL_digits n c hc; omega
theorem numW_fig (n : Nat) : figAll (numW n) = true := by
  unfold figAll
  rw [List.all_eq_true]
  intro c hc
  have := TL.numL_digits n c hc
  simp [this]
theorem numW_head : ∀ (n : Nat), 0 < n → (numW n).head? ≠ some 48 := by
  intro n
  induction n using Nat.strongRecOn with
  | ind n ih =>
    intro h
    by_cases h1 : n < 10
    · show (TL.numL n).head? ≠ _
      rw [TL.numL_lt h1]
      simp
      omega
    · have := ih (n / 10) (by omega) (by omega)
      show (TL.numL n).head? ≠ _
      rw [TL.numL_step (by omega)]
      cases e : TL.numL (n / 10) with
      | nil => exact absurd e (TL.numL_ne _)
      | cons a b =>
        rw [show numW (n / 10) = a :: b from e] at this
        exact this
theorem numO_num (n : Nat) : numO (numW n) = some (n : Int) := by
  unfold numO
  rw [if_neg, show NumText.digitsVal (numW n) = n from TL.numL_val n]
  rintro (h | ⟨h1, h2⟩ | h)
  · exact TL.numL_ne n h
  · cases n with
    | zero => exact absurd h2 (by decide)
    | succ n => exact numW_head (n + 1) (by omega) h1
  · rw [numW_fig] at h
    cases h
theorem numW_len {n k : Nat} (hk : 0 < k) (h : n < 10 ^ k) : (numW n).length ≤ k := TL.numL_len hk h
theorem str_n {S : Sto} {n : Nat} (h : n < 10 ^ 60) : biR .str S [.v (.int (n : Int))] = some (.v (txD (numW n))) := by
  show (if ((n : Int).natAbs).log2 < 1920 then some (R.v (.str (figs (n : Int)))) else none) = _
  have h1 : ((n : Int).natAbs).log2 < 1920 := by
    show n.log2 < 1920
    by_cases h0 : n = 0
    · subst h0; decide
    · exact (Nat.log2_lt h0).mpr (Nat.lt_of_lt_of_le h (by decide))
  rw [if_pos h1]
  have e : figs (n : Int) = txS (numW n) := SX.num_S n
  rw [e]
theorem getA_cons {κ : Type} [DecidableEq κ] (k j : κ) (d : D) (r : List (κ × D)) : getA k ((j, d) :: r) = if j = k then some d else getA k r := by rw [getA]
theorem getA_nil {κ : Type} [DecidableEq κ] (k : κ) : getA k [] = none := rfl
theorem putA_cons {κ : Type} [DecidableEq κ] (k j : κ) (d v : D) (r : List (κ × D)) : putA k v ((j, d) :: r) = if j = k then (j, v) :: r else (j, d) :: putA k v r := by rw [putA]
theorem putA_nil {κ : Type} [DecidableEq κ] (k : κ) (v : D) : putA k v [] = [(k, v)] := rfl
/-! ### parts of lists -/
theorem sIx_lo {n : Nat} {i : Int} (h0 : 0 ≤ i) (h1 : i ≤ n) : HT.sIx n 0 (some i) = i.toNat := by
  show (if i < 0 then (i + (n : Nat)).toNat else min i.toNat n) = _
  rw [if_neg (by omega)]
  omega
theorem sIx_hi {n : Nat} {i : Int} (h0 : 0 ≤ i) (h1 : i ≤ n) : HT.sIx n n (some i) = i.toNat := by
  show (if i < 0 then (i + (n : Nat)).toNat else min i.toNat n) = _
  rw [if_neg (by omega)]
  omega
theorem cut_from {α : Type} {l : List α} {i : Int} (h0 : 0 ≤ i) (h1 : i ≤ l.length) : cut l (some i) none = l.drop i.toNat := by
  unfold cut
  rw [HT.sIx_none, sIx_lo h0 h1]
  exact List.take_of_length_le (by rw [List.length_drop]; omega)
theorem cut_to {α : Type} {l : List α} {i : Int} (h0 : 0 ≤ i) (h1 : i ≤ l.length) : cut l none (some i) = l.take i.toNat := by
  unfold cut
  rw [HT.sIx_none, sIx_hi h0 h1]
  rfl
theorem cut_mid {α : Type} {l : List α} {i j : Int} (h0 : 0 ≤ i) (h1 : i ≤ j) (h2 : j ≤ l.length) : cut l (some i) (some j) = (l.drop i.toNat).take (j - i).toNat := by
  unfold cut
  rw [sIx_lo h0 (by omega), sIx_hi (by omega) h2]
  congr 1
  omega
theorem cut_to' {α : Type} {l : List α} {i : Int} (h0 : 0 ≤ i) : cut l none (some i) = l.take i.toNat := by
  unfold cut
  rw [HT.sIx_none]
  show (l.drop 0).take ((if i < 0 then (i + (l.length : Nat)).toNat else min i.toNat l.length) - 0) = _
  rw [if_neg (by omega), List.drop_zero, Nat.sub_zero]
  rcases Nat.le_total i.toNat l.length with h | h
  · rw [Nat.min_eq_left h]
  · rw [Nat.min_eq_right h, List.take_of_length_le (Nat.le_refl _), List.take_of_length_le h]
theorem cut_from' {α : Type} {l : List α} {i : Int} (h0 : 0 ≤ i) : cut l (some i) none = l.drop i.toNat := by
  have e : HT.sIx l.length 0 (some i) = min i.toNat l.length := by
    show (if i < 0 then (i + (l.length : Nat)).toNat else min i.toNat l.length) = _
    rw [if_neg (by omega)]
  unfold cut
  rw [HT.sIx_none, e]
  rcases Nat.le_total i.toNat l.length with h | h
  · rw [Nat.min_eq_left h]
    exact List.take_of_length_le (by rw [List.length_drop]; omega)
  · rw [Nat.min_eq_right h, List.drop_of_length_le (Nat.le_refl l.length), List.drop_of_length_le h, List.take_nil]
theorem gds_app : ∀ (a b : List D), gds (a ++ b) = (gds a && gds b)
  | [], b => rfl
  | x :: a, b => by
    show (gd x && gds (a ++ b)) = ((gd x && gds a) && gds b)
    rw [gds_app a b, Bool.and_assoc]
theorem gds_iff : ∀ {ds : List D}, gds ds = true ↔ ∀ d ∈ ds, gd d = true
  | [] => by simp [gds]
  | d :: ds => by simp [gds, gds_iff (ds := ds)]
theorem dps_le : ∀ {ds : List D} {n : Nat}, (∀ d ∈ ds, dp d ≤ n) → dps ds ≤ n
  | [], n, _ => by simp [dps]
  | d :: ds, n, h => by
    simp only [dps]
    have h1 := h d (by simp)
    have h2 := dps_le (ds := ds) fun x hx => h x (by simp [hx])
    omega
theorem eqR_l (S : Sto) (a b : List D) : eqR S (.l a) (.l b) = eqR S (.v (.lst a)) (.v (.lst b)) := rfl
theorem eqR_sl (S : Sto) (a b : List D) : eqR S (.v (.lst a)) (.l b) = eqR S (.v (.lst a)) (.v (.lst b)) := rfl
theorem eqR_ls (S : Sto) (a b : List D) : eqR S (.l a) (.v (.lst b)) = eqR S (.v (.lst a)) (.v (.lst b)) := rfl
/-- one text against one -/
theorem eq_t1 {S : Sto} {a b : List Nat} (ha : okT a = true) (hb : okT b = true) : eqR S (.v (.lst [txD a])) (.v (.lst [txD b])) = some (decide (a = b)) := by
  have g : ∀ {l : List Nat}, okT l = true → gd (.lst [txD l]) = true := fun h => by
    simp only [gd, gds, List.length_cons, List.length_nil, Bool.and_true, Bool.and_eq_true]
    exact ⟨by simp, okT_lay h⟩
  rw [eqR_gd (g ha) (g hb) (by simp [dp, dps]) (by simp [dp, dps])]
  refine congrArg some (decide_eq_decide.mpr ⟨fun h => ?_, fun h => by rw [h]⟩)
  simp only [D.lst.injEq, List.cons.injEq, D.str.injEq, and_true] at h
  exact txS_inj h
theorem eq_t0 {S : Sto} {b : List Nat} (hb : okT b = true) : eqR S (.v (.lst [])) (.v (.lst [txD b])) = some false := by
  have g : gd (.lst [txD b]) = true := by
    simp only [gd, gds, List.length_cons, List.length_nil, Bool.and_true, Bool.and_eq_true]
    exact ⟨by simp, okT_lay hb⟩
  rw [eqR_gd rfl g (by simp [dp, dps]) (by simp [dp, dps])]
  exact congrArg some (@decide_eq_false _ (_) (by simp))
open Classical in
/-- the place of the first -/
theorem indexD_at {a : D} {p : PyData} (ha : gd a = true) (hp : pyD a = some p) : ∀ (pre post : List D) (ps : List PyData) (n : Nat), gds (pre ++ a :: post) = true → pyDs (pre ++ a :: post) = some ps → a ∉ pre → indexD p ps n = some (n + pre.length)
  | [], post, ps, n, g, h, _ => by
    rw [List.nil_append] at g h
    simp only [gds, Bool.and_eq_true] at g
    obtain ⟨qs, h2, _⟩ := gds_py post g.2
    simp only [pyDs, hp, h2, Option.map_some, Option.some.injEq] at h
    subst h
    unfold indexD
    rw [if_pos ((gd_eq a a p p ha ha hp hp).mpr rfl)]
    rfl
  | x :: pre, post, ps, n, g, h, hn => by
    rw [List.cons_append] at g h
    simp only [gds, Bool.and_eq_true] at g
    obtain ⟨q, h1, _⟩ := gd_py x g.1
    obtain ⟨qs, h2, _⟩ := gds_py (pre ++ a :: post) g.2
    simp only [pyDs, h1, h2, Option.map_some, Option.some.injEq] at h
    subst h
    have hne : x ≠ a := fun e => hn (by simp [e])
    unfold indexD
    rw [if_neg (fun z => hne ((gd_eq x a q p g.1 ha h1 hp).mp z)), indexD_at ha hp pre post qs (n + 1) g.2 h2 (fun z => hn (by simp [z])), List.length_cons]
    congr 1
    omega
theorem index_gd {S : Sto} {x : R} {a : D} {pre post : List D} (hl : lsOf S x = some (pre ++ a :: post)) (ha : gd a = true) (hd : dp a ≤ 64) (hg : gds (pre ++ a :: post) = true) (hd2 : dps (pre ++ a :: post) < 64) (hn : a ∉ pre) : bmR .index S x [a] = some (.v (.int (pre.length : Int)), S) := by
  obtain ⟨p, p1, p2, p3⟩ := gd_py a ha
  obtain ⟨ps, q1, q2, q3⟩ := gds_py _ hg
  have e : bmR .index S x [a] = match lsOf S x with
    | some ds => match pyD a, pyDs ds with
      | some p, some ps => if PySem.SeqAt.shaped p && PySem.SeqAt.shaped (.list ps) then (match indexD p ps 0 with
        | some j => some (R.v (.int (Int.ofNat j)), S)
        | none => none) else none
      | _, _ => none
    | none => none := rfl
  rw [e, hl]
  simp only [p1, q1]
  rw [shaped_of p2 p3 hd, shaped_of (p := .list ps) (n := dps (pre ++ a :: post) + 1) (by simpa only [PyData.canLay0] using q2) (by simp only [PyData.depth, q3]) (by omega), indexD_at ha p1 pre post ps 0 hg q1 hn, Nat.zero_add]
  rfl
theorem bmOk_index {S : Sto} {x : R} {ds : List D} (h : lsOf S x = some ds) : bmOk .index S x = true := by
  show (lsOf S x).isSome = true
  rw [h]
  rfl
/-! ### None -/
section
variable {S : Sto}
theorem isN_non : cmpR .isN S (.v .non) (.v .non) = some true := rfl
theorem isN_int (i : Int) : cmpR .isN S (.v (.int i)) (.v .non) = some false := rfl
theorem isN_str (i : Str) : cmpR .isN S (.v (.str i)) (.v .non) = some false := rfl
theorem isN_tup (i : List D) : cmpR .isN S (.v (.tup i)) (.v .non) = some false := rfl
theorem isN_ref (i : Nat) : cmpR .isN S (.v (.ref i)) (.v .non) = some false := rfl
theorem isN_o (i : Option Int) : cmpR .isN S (.v (oD i)) (.v .non) = some i.isNone := by cases i <;> rfl
theorem notN_non : cmpR .notN S (.v .non) (.v .non) = some false := rfl
theorem notN_int (i : Int) : cmpR .notN S (.v (.int i)) (.v .non) = some true := rfl
theorem notN_str (i : Str) : cmpR .notN S (.v (.str i)) (.v .non) = some true := rfl
theorem notN_tup (i : List D) : cmpR .notN S (.v (.tup i)) (.v .non) = some true := rfl
theorem notN_ref (i : Nat) : cmpR .notN S (.v (.ref i)) (.v .non) = some true := rfl
theorem notN_o (i : Option Int) : cmpR .notN S (.v (oD i)) (.v .non) = some i.isSome := by cases i <;> rfl
theorem boolsD_map {α : Type} (f : α → Bool) : ∀ l : List α, boolsD (l.map fun x => D.bl (f x)) = some (l.map f)
  | [] => rfl
  | x :: l => by rw [List.map_cons, List.map_cons, boolsD, boolsD_map f l]; rfl
theorem any_l {α : Type} (f : α → Bool) (l : List α) : biR .any S [.l (l.map fun x => D.bl (f x))] = some (.v (.bl (l.any f))) := by
  show ((boolsD (l.map fun x => D.bl (f x))).map fun (is : List Bool) => R.v (.bl (is.any id))) = _
  rw [boolsD_map, Option.map_some, List.any_map]
  rfl
theorem all_l {α : Type} (f : α → Bool) (l : List α) : biR .all S [.l (l.map fun x => D.bl (f x))] = some (.v (.bl (l.all f))) := by
  show ((boolsD (l.map fun x => D.bl (f x))).map fun (is : List Bool) => R.v (.bl (is.all id))) = _
  rw [boolsD_map, Option.map_some, List.all_map]
  rfl
end
/-! ### lists without lists inside; the last of a list -/
theorem noLs_n : noLs [] = true := rfl
theorem noLs_c (d : D) (ds : List D) : noLs (d :: ds) = (noL d && noLs ds) := rfl
theorem noLs_a : ∀ (a b : List D), noLs (a ++ b) = (noLs a && noLs b)
  | [], b => by rw [List.nil_append, noLs_n, Bool.true_and]
  | d :: a, b => by rw [List.cons_append, noLs_c, noLs_c, noLs_a a b, Bool.and_assoc]
theorem noLs_m {α : Type} (f : α → D) (h : ∀ a, noL (f a) = true) : ∀ l : List α, noLs (l.map f) = true
  | [] => rfl
  | a :: l => by rw [List.map_cons, noLs_c, h a, noLs_m f h l]; rfl
theorem noLs_mt (l : List (List Nat)) : noLs (l.map fun w => txD w) = true := noLs_m _ (fun _ => rfl) l
theorem noLs_mi (l : List Int) : noLs (l.map D.int) = true := noLs_m _ (fun _ => rfl) l
theorem noLs_mn (l : List Nat) : noLs (l.map fun (n : Nat) => D.int (n : Int)) = true := noLs_m _ (fun _ => rfl) l
theorem noLs_mtn {α : Type} (f : α → List Nat) (l : List α) : noLs (l.map fun n => txD (f n)) = true := noLs_m _ (fun _ => rfl) l
theorem noLs_mtup {α : Type} (f : α → List D) (h : ∀ a, noLs (f a) = true) (l : List α) : noLs (l.map fun n => .tup (f n)) = true := noLs_m _ h l
theorem noL_t (s : Str) : noL (.str s) = true := rfl
theorem noL_i (i : Int) : noL (.int i) = true := rfl
theorem noL_x : noL .non = true := rfl
theorem noL_b (b : Bool) : noL (.bl b) = true := rfl
theorem noL_r (a : Nat) : noL (.ref a) = true := rfl
theorem noL_tup (ds : List D) : noL (.tup ds) = noLs ds := rfl
theorem atI_neg1 {α : Type} (xs : List α) : L2.atI xs (-1) = xs.getLast? := by
  unfold L2.atI L2.ixN
  cases xs with
  | nil => rfl
  | cons x l =>
    rw [if_neg (by omega), if_pos (by rw [List.length_cons]; omega)]
    show (x :: l)[(-1 + (((x :: l).length : Nat) : Int)).toNat]? = _
    rw [List.getLast?_eq_getElem?]
    congr 1
    omega
theorem lc_ex0 {S : Sto} {α β : Type} {f : D → Sto → O (Option D)} (e : α → D) (d : β → D) (P : α → β → Prop) : ∀ (xs : List α) (acc : List D), (∀ x ∈ xs, ∃ y, P x y ∧ f (e x) S = .ok (some (d y)) S) → acc.length + xs.length ≤ PySem.sizeLine → ∃ ys : List β, ys.length = xs.length ∧ (∀ y ∈ ys, ∃ x ∈ xs, P x y) ∧ lcL [] f (xs.map e) acc S = .ok (acc ++ ys.map d) S
  | [], acc, _, _ => ⟨[], rfl, (fun _ h => nomatch h), (by rw [List.map_nil, List.map_nil, List.append_nil]; exact lcL_nil)⟩
  | x :: xs, acc, h, hl => by
    rw [List.length_cons] at hl
    obtain ⟨y, hy, hf⟩ := h x (by simp)
    obtain ⟨ys, h1, h2, h3⟩ := lc_ex0 e d P xs (acc ++ [d y]) (fun z hz => h z (by simp [hz])) (by rw [List.length_append, List.length_singleton]; omega)
    refine ⟨y :: ys, by rw [List.length_cons, List.length_cons, h1], fun z hz => ?_, ?_⟩
    · rcases List.mem_cons.mp hz with e | hz
      · exact ⟨x, by simp, e ▸ hy⟩
      · obtain ⟨w, hw, hp⟩ := h2 z hz
        exact ⟨w, by simp [hw], hp⟩
    · rw [List.map_cons, lcL_some hf (by omega), h3, List.map_cons, List.append_assoc]
      rfl
/-- a comprehension whose items are known up to a law each -/
theorem lc_ex {S : Sto} {α β : Type} {f : D → Sto → O (Option D)} (e : α → D) (d : β → D) (P : α → β → Prop) (xs : List α) (h : ∀ x ∈ xs, ∃ y, P x y ∧ f (e x) S = .ok (some (d y)) S) (hl : xs.length ≤ PySem.sizeLine) : ∃ ys : List β, ys.length = xs.length ∧ (∀ y ∈ ys, ∃ x ∈ xs, P x y) ∧ lcL [] f (xs.map e) [] S = .ok (ys.map d) S := lc_ex0 e d P xs [] h (by rw [List.length_nil]; omega)
theorem rangeD0 (n : Nat) : rangeD 0 (n : Int) = (List.range n).map fun (i : Nat) => D.int (i : Int) := by
  unfold rangeD
  rw [show ((n : Int) - 0).toNat = n by omega]
  refine List.map_congr_left fun i _ => ?_
  show D.int (0 + (i : Int)) = _
  rw [Int.zero_add]
theorem gd_tup {ds : List D} (hl : ds.length ≤ 16777216) (h : gds ds = true) : gd (.tup ds) = true := by
  show (decide (ds.length ≤ 16777216) && gds ds) = true
  rw [decide_eq_true hl, h]
  rfl
theorem gd_lst {ds : List D} (hl : ds.length ≤ 16777216) (h : gds ds = true) : gd (.lst ds) = true := by
  show (decide (ds.length ≤ 16777216) && gds ds) = true
  rw [decide_eq_true hl, h]
  rfl
theorem gd_int (i : Int) : gd (.int i) = true := rfl
theorem gds_n : gds [] = true := rfl
theorem gds_c {d : D} {ds : List D} (h : gd d = true) (k : gds ds = true) : gds (d :: ds) = true := by
  show (gd d && gds ds) = true
  rw [h, k]
  rfl
theorem gds_map {α : Type} {f : α → D} {l : List α} (h : ∀ a ∈ l, gd (f a) = true) : gds (l.map f) = true := gds_iff.mpr fun d hd => by
  obtain ⟨a, ha, rfl⟩ := List.mem_map.mp hd
  exact h a ha
theorem dps_map {α : Type} {f : α → D} {l : List α} {n : Nat} (h : ∀ a ∈ l, dp (f a) ≤ n) : dps (l.map f) ≤ n := dps_le fun d hd => by
  obtain ⟨a, ha, rfl⟩ := List.mem_map.mp hd
  exact h a ha
/-! ### dicts of the written part -/
theorem inR_dck (S : Sto) (z : Str) (ks : List Str) (ds : List D) : inR S (.v (.str z)) (.v (.dck ks ds)) = some (getA z (ks.zip ds)).isSome := rfl
theorem ixR_dck (S : Sto) (z : Str) (ks : List Str) (ds : List D) : ixR S (.v (.dck ks ds)) (.v (.str z)) = (getA z (ks.zip ds)).map .v := by
  show (match (some (getA z (ks.zip ds)) : Option (Option D)) with
    | some (some d) => some (R.v d)
    | _ => none) = _
  cases getA z (ks.zip ds) <;> rfl
theorem isSome_s {α : Type} (a : α) : (some a).isSome = true := rfl
theorem isSome_n {α : Type} : (none : Option α).isSome = false := rfl
end Pl
/-! Objects of the store. -/
namespace Pl
open PySem (Str PyData sizeLine)
open PySem
def refL : Option Ob → Option (List D)
  | some (.lst ds) => some ds
  | _ => none
def refK : Option Ob → Option (List (Key × D))
  | some (.dk kvs) => some kvs
  | some (.fz kvs) => some kvs
  | _ => none
theorem refL_l (ds : List D) : refL (some (.lst ds)) = some ds := rfl
theorem refL_k (kvs : List (Key × D)) : refL (some (.dk kvs)) = none := rfl
theorem refL_t (kvs : List (List Key × D)) : refL (some (.dt kvs)) = none := rfl
theorem refL_i (c : Nat) (fs : List (Str × D)) : refL (some (.ins c fs)) = none := rfl
theorem refK_f (kvs : List (Key × D)) : refK (some (.fz kvs)) = some kvs := rfl
theorem refK_k (kvs : List (Key × D)) : refK (some (.dk kvs)) = some kvs := rfl
section
variable {S : Sto}
theorem ls_ref (a : Nat) : lsOf S (.v (.ref a)) = refL S[a]? := by
  show (match S[a]? with
    | some (.lst ds) => some ds
    | _ => none) = _
  cases S[a]? with
  | none => rfl
  | some o => cases o <;> rfl
theorem lm_ref (a : Nat) : lmOf S (.v (.ref a)) = refL S[a]? := ls_ref a
theorem sq_ref (a : Nat) : sqOf S (.v (.ref a)) = refL S[a]? := ls_ref a
theorem dk_ref (a : Nat) : dkOf S (.v (.ref a)) = refK S[a]? := by
  show (match S[a]? with
    | some (.dk kvs) => some kvs
    | some (.fz kvs) => some kvs
    | _ => none) = _
  cases S[a]? with
  | none => rfl
  | some o => cases o <;> rfl
/-- [] of an object -/
def ixO (y : R) : Option Ob → Option R
  | some (.lst ds) => match y with
    | .v (.int i) => (L2.atI ds i).map .v
    | _ => none
  | some (.dk kvs) => match y with
    | .v d => match keyD d with
      | some k => (getA k kvs).map .v
      | none => none
    | _ => none
  | some (.fz kvs) => match y with
    | .v d => match keyD d with
      | some k => (getA k kvs).map .v
      | none => none
    | _ => none
  | some (.dt kvs) => match y with
    | .v (.tup ds) => match keyDs ds with
      | some k => (getA k kvs).map .v
      | none => none
    | _ => none
  | _ => none
theorem ixR_aux (a : Nat) (y : R) : ixR S (.v (.ref a)) y = match sqOf S (.v (.ref a)) with
    | some ds => match y with
      | .v (.int i) => (L2.atI ds i).map .v
      | _ => none
    | none => match dgR S (.v (.ref a)) y with
      | some (some d) => some (.v d)
      | _ => none := rfl
theorem ix_ref (a : Nat) (y : R) : ixR S (.v (.ref a)) y = ixO y S[a]? := by
  have g : dgR S (.v (.ref a)) y = match dkOf S (.v (.ref a)) with
    | some kvs => match y with
      | .v d => (keyD d).map fun k => getA k kvs
      | _ => none
    | none => match dtOf S (.v (.ref a)) with
      | some kvs => match y with
        | .v (.tup ds) => (keyDs ds).map fun k => getA k kvs
        | _ => none
      | none => none := rfl
  have t : dtOf S (.v (.ref a)) = match S[a]? with
    | some (.dt kvs) => some kvs
    | _ => none := rfl
  rw [ixR_aux, g, sq_ref, dk_ref, t]
  cases S[a]? with
  | none => rfl
  | some o =>
    cases o with
    | lst ds => rfl
    | ins c fs => rfl
    | dk kvs =>
      cases y with
      | v d =>
        show (match (keyD d).map fun k => getA k kvs with
          | some (some d) => some (R.v d)
          | _ => none) = match keyD d with
            | some k => (getA k kvs).map .v
            | none => none
        cases keyD d with
        | none => rfl
        | some k =>
          show (match some (getA k kvs) with
            | some (some d) => some (R.v d)
            | _ => none) = (getA k kvs).map .v
          cases getA k kvs <;> rfl
      | _ => rfl
    | fz kvs =>
      cases y with
      | v d =>
        show (match (keyD d).map fun k => getA k kvs with
          | some (some d) => some (R.v d)
          | _ => none) = match keyD d with
            | some k => (getA k kvs).map .v
            | none => none
        cases keyD d with
        | none => rfl
        | some k =>
          show (match some (getA k kvs) with
            | some (some d) => some (R.v d)
            | _ => none) = (getA k kvs).map .v
          cases getA k kvs <;> rfl
      | _ => rfl
    | dt kvs =>
      cases y with
      | v d =>
        cases d with
        | tup ds =>
          show (match (keyDs ds).map fun k => getA k kvs with
            | some (some d) => some (R.v d)
            | _ => none) = match keyDs ds with
              | some k => (getA k kvs).map .v
              | none => none
          cases keyDs ds with
          | none => rfl
          | some k =>
            show (match some (getA k kvs) with
              | some (some d) => some (R.v d)
              | _ => none) = (getA k kvs).map .v
            cases getA k kvs <;> rfl
        | _ => rfl
      | _ => rfl
theorem ixO_l (i : Int) (ds : List D) : ixO (.v (.int i)) (some (.lst ds)) = (L2.atI ds i).map .v := rfl
theorem ixO_fi (i : Int) (kvs : List (Key × D)) : ixO (.v (.int i)) (some (.fz kvs)) = (getA (.inl i) kvs).map .v := rfl
theorem ixO_ki (i : Int) (kvs : List (Key × D)) : ixO (.v (.int i)) (some (.dk kvs)) = (getA (.inl i) kvs).map .v := rfl
theorem ixO_ks (z : Str) (kvs : List (Key × D)) : ixO (.v (.str z)) (some (.dk kvs)) = (getA (.inr z) kvs).map .v := rfl
/-- what a dict of the store tells of a key -/
def dgO (x : D) : Option Ob → Option (Option D)
  | some (.dk kvs) => (keyD x).map fun k => getA k kvs
  | some (.fz kvs) => (keyD x).map fun k => getA k kvs
  | some (.dt kvs) => match x with
    | .tup ds => (keyDs ds).map fun k => getA k kvs
    | _ => none
  | _ => none
theorem dg_ref (a : Nat) (x : D) : dgR S (.v (.ref a)) (.v x) = dgO x S[a]? := by
  have g : dgR S (.v (.ref a)) (.v x) = match dkOf S (.v (.ref a)) with
    | some kvs => (keyD x).map fun k => getA k kvs
    | none => match dtOf S (.v (.ref a)) with
      | some kvs => match R.v x with
        | .v (.tup ds) => (keyDs ds).map fun k => getA k kvs
        | _ => none
      | none => none := rfl
  have t : dtOf S (.v (.ref a)) = match S[a]? with
    | some (.dt kvs) => some kvs
    | _ => none := rfl
  rw [g, dk_ref, t]
  cases S[a]? with
  | none => rfl
  | some o => cases o with
    | dt kvs => cases x <;> rfl
    | _ => rfl
theorem dgO_ki (i : Int) (kvs : List (Key × D)) : dgO (.int i) (some (.dk kvs)) = some (getA (.inl i) kvs) := rfl
theorem dgO_ks (z : Str) (kvs : List (Key × D)) : dgO (.str z) (some (.dk kvs)) = some (getA (.inr z) kvs) := rfl
theorem dgO_t (ds : List D) (kvs : List (List Key × D)) : dgO (.tup ds) (some (.dt kvs)) = (keyDs ds).map fun k => getA k kvs := rfl
theorem get_ref (a : Nat) (y : D) : bmR .get S (.v (.ref a)) [y] = (dgO y S[a]?).map fun o => (.v (o.getD .non), S) := by
  rw [← dg_ref]
  rfl
theorem get2_ref (a : Nat) (y z : D) : bmR .get2 S (.v (.ref a)) [y, z] = (dgO y S[a]?).map fun o => (.v (o.getD z), S) := by
  rw [← dg_ref]
  rfl
/-- x in an object -/
def inO (S : Sto) (x : D) : Option Ob → Option Bool
  | some (.lst ds) => inR S (.v x) (.v (.lst ds))
  | o => (dgO x o).map Option.isSome
theorem in_ref (a : Nat) (x : D) : inR S (.v x) (.v (.ref a)) = inO S x S[a]? := by
  have e : inR S (.v x) (.v (.ref a)) = match sqOf S (.v (.ref a)) with
    | some ds => match pyR S (.v x), pyDs ds with
      | some a, some bs => if PySem.SeqAt.shaped a && PySem.SeqAt.shaped (.list bs) then some (bs.any fun z => PyData.eqv z a) else none
      | _, _ => none
    | none => (dgR S (.v (.ref a)) (.v x)).map Option.isSome := rfl
  rw [e, sq_ref, dg_ref]
  cases S[a]? with
  | none => rfl
  | some o => cases o <;> rfl
theorem inO_l (x : D) (ds : List D) : inO S x (some (.lst ds)) = inR S (.v x) (.v (.lst ds)) := rfl
theorem inO_ki (i : Int) (kvs : List (Key × D)) : inO S (.int i) (some (.dk kvs)) = some (getA (.inl i) kvs).isSome := rfl
theorem inO_ks (z : Str) (kvs : List (Key × D)) : inO S (.str z) (some (.dk kvs)) = some (getA (.inr z) kvs).isSome := rfl
/-- a loop's things of an object -/
def srcO (a : Nat) : Option Ob → Option Src
  | some (.lst ds) => some ⟨[(a, .lst ds)], ds, false⟩
  | some (.fz kvs) => some ⟨[(a, .fz kvs)], kvs.map fun p => kD p.1, false⟩
  | _ => none
theorem src_ref (a : Nat) : srcOf S (.v (.ref a)) = srcO a S[a]? := by
  show (match S[a]? with
    | some (.lst ds) => some (Src.mk [(a, .lst ds)] ds false)
    | some (.fz kvs) => some (Src.mk [(a, .fz kvs)] (kvs.map fun (p : Key × D) => kD p.1) false)
    | _ => none) = _
  cases S[a]? with
  | none => rfl
  | some o => cases o <;> rfl
theorem srcO_f (a : Nat) (kvs : List (Key × D)) : srcO a (some (.fz kvs)) = some ⟨[(a, .fz kvs)], kvs.map fun p => kD p.1, false⟩ := rfl
theorem srcO_l (a : Nat) (ds : List D) : srcO a (some (.lst ds)) = some ⟨[(a, .lst ds)], ds, false⟩ := rfl
def lenOb : Option Ob → Option R
  | some (.lst ds) => some (.v (.int (ds.length : Int)))
  | some (.dk kvs) => some (.v (.int (kvs.length : Int)))
  | some (.fz kvs) => some (.v (.int (kvs.length : Int)))
  | _ => none
theorem len_ref (a : Nat) : biR .len S [.v (.ref a)] = lenOb S[a]? := by
  have e : biR .len S [.v (.ref a)] = match sqOf S (.v (.ref a)) with
    | some ds => some (.v (.int ds.length))
    | none => match dkOf S (.v (.ref a)) with
      | some kvs => some (.v (.int kvs.length))
      | none => none := rfl
  rw [e, sq_ref, dk_ref]
  cases S[a]? with
  | none => rfl
  | some o => cases o <;> rfl
theorem lenOb_l (ds : List D) : lenOb (some (.lst ds)) = some (.v (.int (ds.length : Int))) := rfl
theorem lenOb_k (kvs : List (Key × D)) : lenOb (some (.dk kvs)) = some (.v (.int (kvs.length : Int))) := rfl
theorem list_ref (a : Nat) : biR .list S [.v (.ref a)] = (refL S[a]?).map .l := by
  have e : biR .list S [.v (.ref a)] = (sqOf S (.v (.ref a))).map .l := rfl
  rw [e, sq_ref]
theorem tuple_ref (a : Nat) : biR .tuple S [.v (.ref a)] = (refL S[a]?).map fun ds => .v (.tup ds) := by
  have e : biR .tuple S [.v (.ref a)] = (lsOf S (.v (.ref a))).map fun ds => .v (.tup ds) := rfl
  rw [e, ls_ref]
theorem dict_ref (a : Nat) : biR .dict S [.v (.ref a)] = match refK S[a]? with
    | some kvs => some (.d kvs)
    | none => match refL S[a]? with
      | some ds => (pairsD ds).map fun kvs => .d (mergeA kvs)
      | none => match dtOf S (.v (.ref a)) with
        | some kvs => if (kvs.all fun p => intKs p.1) = true ∧ (kvs.map fun p => hashK p.1).Nodup then some (.t kvs) else none
        | none => none := by
  have e : biR .dict S [.v (.ref a)] = match dkOf S (.v (.ref a)) with
    | some kvs => some (.d kvs)
    | none => match lsOf S (.v (.ref a)) with
      | some ds => (pairsD ds).map fun kvs => .d (mergeA kvs)
      | none => match dtOf S (.v (.ref a)) with
        | some kvs => if (kvs.all fun p => intKs p.1) = true ∧ (kvs.map fun p => hashK p.1).Nodup then some (.t kvs) else none
        | none => none := rfl
  rw [e, dk_ref, ls_ref]
theorem dict_dt {a : Nat} {kvs : List (List Key × D)} (h : S[a]? = some (.dt kvs)) (hk : (kvs.all fun p => intKs p.1) = true) (hn : (kvs.map fun p => hashK p.1).Nodup) : biR .dict S [.v (.ref a)] = some (.t kvs) := by
  rw [dict_ref, h]
  have e : dtOf S (.v (.ref a)) = some kvs := by
    show (match S[a]? with
      | some (.dt kvs) => some kvs
      | _ => none) = _
    rw [h]
  rw [e]
  exact if_pos ⟨hk, hn⟩
def tyOb : Option Ob → Option String
  | some (.lst _) => some "list"
  | _ => none
theorem ty_ref (a : Nat) : tyR S (.v (.ref a)) = tyOb S[a]? := by
  show (match S[a]? with
    | some (.lst _) => some "list"
    | _ => none) = _
  cases S[a]? with
  | none => rfl
  | some o => cases o <;> rfl
theorem tyOb_l (ds : List D) : tyOb (some (.lst ds)) = some "list" := rfl
theorem sl_ref (a : Nat) (lo hi : Option Int) : slR S (.v (.ref a)) lo hi = (refL S[a]?).map fun ds => .l (cut ds lo hi) := by
  have e : slR S (.v (.ref a)) lo hi = (lsOf S (.v (.ref a))).map fun ds => .l (cut ds lo hi) := rfl
  rw [e, ls_ref]
theorem sl_lst (ds : List D) (lo hi : Option Int) : slR S (.v (.lst ds)) lo hi = some (.l (cut ds lo hi)) := rfl
theorem sl_l (ds : List D) (lo hi : Option Int) : slR S (.l ds) lo hi = some (.l (cut ds lo hi)) := rfl
theorem box_l (ds : List D) : boxR S (.l ds) = if noLs ds = true then some (.v (.ref S.length), S ++ [.lst ds]) else none := rfl
theorem box_d (kvs : List (Key × D)) : boxR S (.d kvs) = if noLs (kvs.map (·.2)) = true then some (.v (.ref S.length), S ++ [.dk kvs]) else none := rfl
theorem box_t (kvs : List (List Key × D)) : boxR S (.t kvs) = if noLs (kvs.map (·.2)) = true then some (.v (.ref S.length), S ++ [.dt kvs]) else none := rfl
/-- methods of an object -/
def apdO (S : Sto) (a : Nat) (y : D) : Option Ob → Option (R × Sto)
  | some (.lst ds) => if ds.length < sizeLine ∧ noL y = true then some (.v .non, S.set a (.lst (ds ++ [y]))) else none
  | _ => none
theorem app_ref (a : Nat) (y : D) : bmR .append S (.v (.ref a)) [y] = apdO S a y S[a]? := by
  have e : bmR .append S (.v (.ref a)) [y] = match S[a]? with
    | some (.lst ds) => if ds.length < sizeLine ∧ noL y = true then some (.v .non, S.set a (.lst (ds ++ [y]))) else none
    | _ => none := rfl
  rw [e]
  cases S[a]? with
  | none => rfl
  | some o => cases o <;> rfl
theorem apO_l (a : Nat) (y : D) (ds : List D) : apdO S a y (some (.lst ds)) = if ds.length < sizeLine ∧ noL y = true then some (.v .non, S.set a (.lst (ds ++ [y]))) else none := rfl
def okbO : Bm → Option Ob → Bool
  | .split, _ | .join, _ | .find, _ => false
  | .get, o | .get2, o => (match o with
    | some (.dk _) => true
    | some (.fz _) => true
    | some (.dt _) => true
    | _ => false)
  | .popK, o => (match o with
    | some (.dk _) => true
    | some (.fz _) => true
    | _ => false)
  | .setd, o => (match o with
    | some (.dt _) => true
    | _ => false)
  | _, o => (refL o).isSome
theorem ok_ref (m : Bm) (a : Nat) : bmOk m S (.v (.ref a)) = okbO m S[a]? := by
  have e1 : (dkOf S (.v (.ref a))).isSome = (refK S[a]?).isSome := by rw [dk_ref]
  have e2 : (lsOf S (.v (.ref a))).isSome = (refL S[a]?).isSome := by rw [ls_ref]
  have e3 : (dtOf S (.v (.ref a))).isSome = (match S[a]? with
    | some (.dt kvs) => some kvs
    | _ => none).isSome := rfl
  cases m <;> first
    | rfl
    | exact e2
    | (show ((dkOf S (.v (.ref a))).isSome || (dtOf S (.v (.ref a))).isSome) = _
       rw [e1, e3]
       cases S[a]? with
       | none => rfl
       | some o => cases o <;> rfl)
    | (show (dkOf S (.v (.ref a))).isSome = _
       rw [e1]
       cases S[a]? with
       | none => rfl
       | some o => cases o <;> rfl)
    | (show (dtOf S (.v (.ref a))).isSome = _
       rw [e3]
       cases S[a]? with
       | none => rfl
       | some o => cases o <;> rfl)
/-- d.setdefault(k, x), the keys tuples -/
def sdO (S : Sto) (a : Nat) (k : List Key) (d : D) : Option Ob → Option (R × Sto)
  | some (.dt kvs) => if kvs.length < sizeLine ∧ noL d = true then (match getA k kvs with
    | some v => some (.v v, S)
    | none => some (.v d, S.set a (.dt (putM k d kvs)))) else none
  | _ => none
theorem sd_ref (a : Nat) (es : List D) (k : List Key) (d : D) (h : keyDs es = some k) : bmR .setd S (.v (.ref a)) [.tup es, d] = sdO S a k d S[a]? := by
  have e : bmR .setd S (.v (.ref a)) [.tup es, d] = match S[a]? with
    | some (.dt kvs) => match keyDs es with
      | some k => if kvs.length < sizeLine ∧ noL d = true then (match getA k kvs with
        | some v => some (.v v, S)
        | none => some (.v d, S.set a (.dt (putM k d kvs)))) else none
      | none => none
    | _ => none := rfl
  rw [e, h]
  cases S[a]? with
  | none => rfl
  | some o => cases o <;> rfl
theorem okb_setd_t (kvs : List (List Key × D)) : okbO .setd (some (.dt kvs)) = true := rfl
/-- l.pop(i) -/
def popIO (S : Sto) (a : Nat) (i : Int) : Option Ob → Option (R × Sto)
  | some (.lst ds) => if 0 ≤ i ∧ i < 2 ^ 62 then match ds[i.toNat]? with
    | some y => some (.v y, S.set a (.lst (ds.eraseIdx i.toNat)))
    | none => none else none
  | _ => none
theorem popI_ref (a : Nat) (i : Int) : bmR .popI S (.v (.ref a)) [.int i] = popIO S a i S[a]? := by
  have e : bmR .popI S (.v (.ref a)) [.int i] = match S[a]? with
    | some (.lst ds) => if 0 ≤ i ∧ i < 2 ^ 62 then match ds[i.toNat]? with
      | some y => some (.v y, S.set a (.lst (ds.eraseIdx i.toNat)))
      | none => none else none
    | _ => none := rfl
  rw [e]
  cases S[a]? with
  | none => rfl
  | some o => cases o <;> rfl
def pop1 (S : Sto) (a : Nat) (i : Int) (ds : List D) : Option D → Option (R × Sto)
  | some y => some (.v y, S.set a (.lst (ds.eraseIdx i.toNat)))
  | none => none
theorem popI_l (a : Nat) (i : Int) (ds : List D) : popIO S a i (some (.lst ds)) = if 0 ≤ i ∧ i < 2 ^ 62 then pop1 S a i ds ds[i.toNat]? else none := by
  unfold popIO pop1
  rfl
theorem pop1_s (S : Sto) (a : Nat) (i : Int) (ds : List D) (y : D) : pop1 S a i ds (some y) = some (.v y, S.set a (.lst (ds.eraseIdx i.toNat))) := rfl
theorem okb_get_k (kvs : List (Key × D)) : okbO .get (some (.dk kvs)) = true := rfl
theorem okb_get_t (kvs : List (List Key × D)) : okbO .get (some (.dt kvs)) = true := rfl
theorem okb_get2_k (kvs : List (Key × D)) : okbO .get2 (some (.dk kvs)) = true := rfl
theorem okb_get2_t (kvs : List (List Key × D)) : okbO .get2 (some (.dt kvs)) = true := rfl
theorem okb_pop_k (kvs : List (Key × D)) : okbO .popK (some (.dk kvs)) = true := rfl
theorem okb_app (ds : List D) : okbO .append (some (.lst ds)) = true := rfl
theorem okb_pop (ds : List D) : okbO .pop (some (.lst ds)) = true := rfl
theorem okb_popI (ds : List D) : okbO .popI (some (.lst ds)) = true := rfl
theorem okb_clear (ds : List D) : okbO .clear (some (.lst ds)) = true := rfl
theorem okb_insert (ds : List D) : okbO .insert (some (.lst ds)) = true := rfl
theorem okb_index (ds : List D) : okbO .index (some (.lst ds)) = true := rfl
theorem okb_count (ds : List D) : okbO .count (some (.lst ds)) = true := rfl
theorem ok_index_lst (ds : List D) : bmOk .index S (.v (.lst ds)) = true := rfl
theorem ok_index_l (ds : List D) : bmOk .index S (.l ds) = true := rfl
/-- a[i] = d -/
def putO (S : Sto) (a : Nat) (y : R) (d : D) : Option Ob → Option Sto
  | some (.lst ds) => match y with
    | .v (.int k) => match L2.ixN ds.length k with
      | some j => some (S.set a (.lst (ds.set j d)))
      | none => none
    | _ => none
  | some (.dk kvs) => match y with
    | .v e => match keyD e with
      | some k => if kvs.length < sizeLine then some (S.set a (.dk (putM k d kvs))) else none
      | none => none
    | _ => none
  | some (.dt kvs) => match y with
    | .v (.tup es) => match keyDs es with
      | some k => if kvs.length < sizeLine then some (S.set a (.dt (putM k d kvs))) else none
      | none => none
    | _ => none
  | _ => none
theorem put_ref (a : Nat) (y : R) (d : D) : putR S a y d = if noL d = true then putO S a y d S[a]? else none := by
  unfold putR
  split
  · cases S[a]? with
    | none => rfl
    | some o => cases o <;> rfl
  · rfl
theorem putO_ki (a : Nat) (i : Int) (d : D) (kvs : List (Key × D)) : putO S a (.v (.int i)) d (some (.dk kvs)) = if kvs.length < sizeLine then some (S.set a (.dk (putM (.inl i) d kvs))) else none := rfl
theorem putO_ks (a : Nat) (z : Str) (d : D) (kvs : List (Key × D)) : putO S a (.v (.str z)) d (some (.dk kvs)) = if kvs.length < sizeLine then some (S.set a (.dk (putM (.inr z) d kvs))) else none := rfl
end
/-! the store behind further objects -/
theorem gS0 (S T : Sto) : (S ++ T)[S.length]? = T[0]? := by rw [List.getElem?_append_right (Nat.le_refl _), Nat.sub_self]
theorem gSk (S T : Sto) (k : Nat) : (S ++ T)[S.length + (no_index (OfNat.ofNat k))]? = T[k]? := by
  show (S ++ T)[S.length + k]? = _
  rw [List.getElem?_append_right (by omega), show S.length + k - S.length = k by omega]
theorem gSlt {S : Sto} {a : Nat} (h : a < S.length) (T : Sto) : (S ++ T)[a]? = S[a]? := List.getElem?_append_left h
theorem sS0 (S T : Sto) (x : Ob) : (S ++ T).set S.length x = S ++ T.set 0 x := by rw [List.set_append_right _ _ (Nat.le_refl _), Nat.sub_self]
theorem sSk (S T : Sto) (k : Nat) (x : Ob) : (S ++ T).set (S.length + (no_index (OfNat.ofNat k))) x = S ++ T.set k x := by
  show (S ++ T).set (S.length + k) x = _
  rw [List.set_append_right _ _ (by omega), show S.length + k - S.length = k by omega]
theorem sSlt {S : Sto} {a : Nat} (h : a < S.length) (T : Sto) (x : Ob) : (S ++ T).set a x = S.set a x ++ T := List.set_append_left _ _ h
theorem getA_putM {κ : Type} [DecidableEq κ] (k j : κ) (v : D) (l : List (κ × D)) : getA k (putM j v l) = if j = k then some v else getA k l := by
  have g1 : ∀ l : List (κ × D), getA k (l ++ [(j, v)]) = (match getA k l with
    | some d => some d
    | none => if j = k then some v else none) := by
    intro l
    induction l with
    | nil => rfl
    | cons p l ih =>
      obtain ⟨i, d⟩ := p
      rw [List.cons_append, getA_cons, getA_cons]
      split
      · rfl
      · exact ih
  have g2 : ∀ l : List (κ × D), (l.any fun p => decide (p.1 = k)) = false → getA k l = none := by
    intro l
    induction l with
    | nil => intro _; rfl
    | cons p l ih =>
      intro h
      rw [List.any_cons, Bool.or_eq_false_iff] at h
      obtain ⟨i, d⟩ := p
      rw [getA_cons, if_neg (of_decide_eq_false h.1)]
      exact ih h.2
  have g3 : ∀ l : List (κ × D), getA k (l.map fun p => if p.1 = j then (p.1, v) else p) = (if j = k then (getA k l).map fun _ => v else getA k l) := by
    intro l
    induction l with
    | nil => split <;> rfl
    | cons p l ih =>
      obtain ⟨i, d⟩ := p
      rw [List.map_cons]
      by_cases h1 : i = j
      · subst h1
        rw [if_pos rfl, getA_cons, getA_cons]
        by_cases h2 : i = k
        · rw [if_pos h2, if_pos h2, if_pos h2]
          rfl
        · rw [if_neg h2, if_neg h2, if_neg h2, ih, if_neg h2]
      · rw [if_neg h1, getA_cons, getA_cons]
        by_cases h2 : i = k
        · rw [if_pos h2, if_pos h2, if_neg (fun e => h1 (h2.trans e.symm))]
        · rw [if_neg h2, if_neg h2, ih]
  unfold putM
  split
  · rename_i h
    rw [g3]
    by_cases e : j = k
    · rw [if_pos e, if_pos e]
      subst e
      have : ∃ d, getA j l = some d := by
        clear g1 g2 g3
        induction l with
        | nil => simp at h
        | cons p l ih =>
          obtain ⟨i, d⟩ := p
          rw [getA_cons]
          by_cases h1 : i = j
          · exact ⟨d, if_pos h1⟩
          · rw [if_neg h1]
            rw [List.any_cons, decide_eq_false h1, Bool.false_or] at h
            exact ih h
      obtain ⟨d, hd⟩ := this
      rw [hd]
      rfl
    · rw [if_neg e, if_neg e]
  · rename_i h
    rw [g1]
    by_cases e : j = k
    · subst e
      rw [g2 l (Bool.eq_false_iff.mpr h), if_pos rfl]
    · rw [if_neg e, if_neg e]
      cases getA k l <;> rfl
theorem putM_len {κ : Type} [DecidableEq κ] (j : κ) (v : D) (l : List (κ × D)) : (putM j v l).length ≤ l.length + 1 := by
  unfold putM
  split
  · rw [List.length_map]
    omega
  · rw [List.length_append]
    exact Nat.le_refl _
theorem keyD_i (i : Int) : keyD (.int i) = some (.inl i) := rfl
theorem keyD_s (z : Str) : keyD (.str z) = some (.inr z) := rfl
theorem len_sto (S T : Sto) : List.length (S ++ T) = S.length + T.length := List.length_append
theorem app_sto (S T U : Sto) : (S ++ T) ++ U = S ++ (T ++ U) := List.append_assoc S T U
theorem putM_nil {κ : Type} [DecidableEq κ] (k : κ) (v : D) : putM k v [] = [(k, v)] := rfl
theorem putM_ne {κ : Type} [DecidableEq κ] {j k : κ} (h : j ≠ k) (v u : D) (l : List (κ × D)) : putM k v ((j, u) :: l) = (j, u) :: putM k v l := by
  unfold putM
  rw [List.any_cons, decide_eq_false h, Bool.false_or]
  split
  · rw [List.map_cons, if_neg h]
  · rfl
theorem putM_s {a b : List Nat} (h : a ≠ b) (v u : D) (l : List (Key × D)) : putM (.inr (txS b)) v ((.inr (txS a), u) :: l) = (.inr (txS a), u) :: putM (.inr (txS b)) v l := putM_ne (fun e => h (txS_inj (Sum.inr.inj e))) v u l
theorem putM_i {a b : Int} (h : a ≠ b) (v u : D) (l : List (Key × D)) : putM (.inl b) v ((.inl a, u) :: l) = (.inl a, u) :: putM (.inl b) v l := putM_ne (fun e => h (Sum.inl.inj e)) v u l
theorem mergeA_f (l : List (Key × D)) : mergeA l = l.foldl (fun acc kv => putM kv.1 kv.2 acc) [] := rfl
theorem getA_s (a b : List Nat) (d : D) (r : List (Key × D)) : getA (.inr (txS b)) ((.inr (txS a), d) :: r) = if a = b then some d else getA (.inr (txS b)) r := by
  rw [getA_cons]
  by_cases h : a = b
  · rw [if_pos h, if_pos (by rw [h])]
  · rw [if_neg h, if_neg fun e => h (txS_inj (Sum.inr.inj e))]
theorem getA_i (a b : Int) (d : D) (r : List (Key × D)) : getA (.inl b) ((.inl a, d) :: r) = if a = b then some d else getA (.inl b) r := by
  rw [getA_cons]
  by_cases h : a = b
  · rw [if_pos h, if_pos (by rw [h])]
  · rw [if_neg h, if_neg fun e => h (Sum.inl.inj e)]
end Pl
namespace Pl
open PySem PySem.Spec
open PyProof.Rows hiding St
open L2
theorem look_mem {α β : Type} [BEq α] [LawfulBEq α] : ∀ {l : List (α × β)} {a : α} {b : β}, l.lookup a = some b → (a, b) ∈ l
  | [], _, _, h => by simp at h
  | (x, y) :: l, a, b, h => by
    rw [List.lookup_cons] at h
    cases e : a == x with
    | true =>
      rw [e] at h
      cases h
      rw [eq_of_beq e]
      exact List.mem_cons_self
    | false =>
      rw [e] at h
      exact List.mem_cons_of_mem _ (look_mem h)
theorem walk_w {lw : PySem.W.OpenLaw} {kk : Nat} {qq : Program} {lo : List Str} {XX : (Str → Option Value) → Heap → Prop} {YY : World → Heap → Prop} {dr : DefRec} {nm : Str}
    (e1 : lw.most = some 63) (e2 : dr.params.defaults = []) (rm : Room kk callerA)
    (F : ∀ (w : World) (mg : Str → Option Value) (f0 : Addr) (hh : Heap), YY w hh → hh.Ns mainGlobals mg → mg dr.name = some (.ref f0) → ∃ (K : PySem.W.Frag) (fd : FuncData) (sp : Sp), K.In hh ∧
      (∀ (s : Shared) (u : Value), BindsTo s fd ⟨[u], []⟩ [(nm, u)]) ∧ (∀ (H : Hp) (a : Addr) (ns : List Int), ns.length ≤ 63 → Only H → SqL K H a (ns.map V.int) → sp [.ref a] H (fun v _ => v = .bl true) fun _ _ _ => False) ∧
      ∀ base : Heap, K.In base → base.Ns mainGlobals mg → FnOk lw.prog w K mg base (L2.CX lw.prog w) kk f0 fd [nm] sp) : PySem.W.WalkO qq lo XX YY lw.row.toRowW dr [] (fun f vs => PySem.call f vs) := by
  refine Att.attach_call e1 e2 ?_
  intro w sa sb mg mb f0 ob pm cd dc ad vs ns G Y h1 h2 h3 h4 h5 h6 h7 h8
  rcases F w mg f0 _ Y G.T.g h4 with ⟨K, fd, sp, kin, bb, z, ok⟩
  refine law_call (sp := sp) kin G.T.g G.T.b G.T.builtins G.T.nolimit h8 h5 h6 (Nat.le_trans h7 (by decide)) rm ok bb (fun H y1 y2 => z H ad ns h7 y1 y2) ?_
  rintro H u s' ⟨_, _, _, _, _, _, _, _, _, _, _, _, ff⟩
  exact ff
def TB : Tb := ⟨tbF, fun c => tabC.lookup c, fun k => tabX.lookup k, fun x => (tabG.lookup x).isSome, fun f => flds.contains f, fun _ => false, false, false⟩
def adr (K : PySem.W.Frag) (w : World) : Adr := ⟨fun f => He.fAd K ((tabN.lookup f).getD ("", none)), fun c => He.ga K ((tabC.lookup c).getD ""), fun k => He.ga K ((tabX.lookup k).getD ""), w, [], false⟩
section
variable {K : PySem.W.Frag} {h : Heap} {mg : Str → Option Value} {w : World}
theorem r_number (c : He.SaysD fa defs K) : ∃ fd, DefR K mg (adr K w) TB TAB k_number d_number ["text", "sign"] ["text"] "number" "number" (defArgs (top 8)) (defBody (top 8)) (defScope (top 8)) fd := by
  obtain ⟨fd, F⟩ := c.def_ 0 (d := e_number) rfl
  exact ⟨fd, ⟨rfl, F, ⟨rfl, rfl, rfl, by decide +kernel, rfl, by decide +kernel, by decide +kernel⟩, FunD.bindsN F (fun _ _ _ _ _ _ us hl => match us, hl with | [_], _ => rfl), rfl, rfl, by decide +kernel⟩⟩
theorem r_numbers_of (c : He.SaysD fa defs K) : ∃ fd, DefR K mg (adr K w) TB TAB k_numbers_of d_numbers_of ["words", "found", "word", "one"] ["words"] "numbers_of" "numbers_of" (defArgs (top 9)) (defBody (top 9)) (defScope (top 9)) fd := by
  obtain ⟨fd, F⟩ := c.def_ 1 (d := e_numbers_of) rfl
  exact ⟨fd, ⟨rfl, F, ⟨rfl, rfl, rfl, by decide +kernel, rfl, by decide +kernel, by decide +kernel⟩, FunD.bindsN F (fun _ _ _ _ _ _ us hl => match us, hl with | [_], _ => rfl), rfl, rfl, by decide +kernel⟩⟩
theorem r_figure (c : He.SaysD fa defs K) : ∃ fd, DefR K mg (adr K w) TB TAB k_figure d_figure ["sign", "at"] ["sign"] "figure" "figure" (defArgs (top 10)) (defBody (top 10)) (defScope (top 10)) fd := by
  obtain ⟨fd, F⟩ := c.def_ 2 (d := e_figure) rfl
  exact ⟨fd, ⟨rfl, F, ⟨rfl, rfl, rfl, by decide +kernel, rfl, by decide +kernel, by decide +kernel⟩, FunD.bindsN F (fun _ _ _ _ _ _ us hl => match us, hl with | [_], _ => rfl), rfl, rfl, by decide +kernel⟩⟩
theorem r_steps_of (c : He.SaysD fa defs K) : ∃ fd, DefR K mg (adr K w) TB TAB k_steps_of d_steps_of ["word", "sign"] ["word"] "steps_of" "steps_of" (defArgs (top 11)) (defBody (top 11)) (defScope (top 11)) fd := by
  obtain ⟨fd, F⟩ := c.def_ 3 (d := e_steps_of) rfl
  exact ⟨fd, ⟨rfl, F, ⟨rfl, rfl, rfl, by decide +kernel, rfl, by decide +kernel, by decide +kernel⟩, FunD.bindsN F (fun _ _ _ _ _ _ us hl => match us, hl with | [_], _ => rfl), rfl, rfl, by decide +kernel⟩⟩
theorem r_cell_of (c : He.SaysD fa defs K) : ∃ fd, DefR K mg (adr K w) TB TAB k_cell_of d_cell_of ["word", "parts"] ["word"] "cell_of" "cell_of" (defArgs (top 12)) (defBody (top 12)) (defScope (top 12)) fd := by
  obtain ⟨fd, F⟩ := c.def_ 4 (d := e_cell_of) rfl
  exact ⟨fd, ⟨rfl, F, ⟨rfl, rfl, rfl, by decide +kernel, rfl, by decide +kernel, by decide +kernel⟩, FunD.bindsN F (fun _ _ _ _ _ _ us hl => match us, hl with | [_], _ => rfl), rfl, rfl, by decide +kernel⟩⟩
theorem r_read_vein (c : He.SaysD fa defs K) : ∃ fd, DefR K mg (adr K w) TB TAB k_read_vein d_read_vein ["words", "steps", "word"] ["words"] "read_vein" "read_vein" (defArgs (top 13)) (defBody (top 13)) (defScope (top 13)) fd := by
  obtain ⟨fd, F⟩ := c.def_ 5 (d := e_read_vein) rfl
  exact ⟨fd, ⟨rfl, F, ⟨rfl, rfl, rfl, by decide +kernel, rfl, by decide +kernel, by decide +kernel⟩, FunD.bindsN F (fun _ _ _ _ _ _ us hl => match us, hl with | [_], _ => rfl), rfl, rfl, by decide +kernel⟩⟩
theorem r_read_words (c : He.SaysD fa defs K) : ∃ fd, DefR K mg (adr K w) TB TAB k_read_words d_read_words ["words", "word"] ["words"] "read_words" "read_words" (defArgs (top 14)) (defBody (top 14)) (defScope (top 14)) fd := by
  obtain ⟨fd, F⟩ := c.def_ 6 (d := e_read_words) rfl
  exact ⟨fd, ⟨rfl, F, ⟨rfl, rfl, rfl, by decide +kernel, rfl, by decide +kernel, by decide +kernel⟩, FunD.bindsN F (fun _ _ _ _ _ _ us hl => match us, hl with | [_], _ => rfl), rfl, rfl, by decide +kernel⟩⟩
theorem r_read_fact (c : He.SaysD fa defs K) : ∃ fd, DefR K mg (adr K w) TB TAB k_read_fact d_read_fact ["text"] ["text"] "read_fact" "read_fact" (defArgs (top 15)) (defBody (top 15)) (defScope (top 15)) fd := by
  obtain ⟨fd, F⟩ := c.def_ 7 (d := e_read_fact) rfl
  exact ⟨fd, ⟨rfl, F, ⟨rfl, rfl, rfl, by decide +kernel, rfl, by decide +kernel, by decide +kernel⟩, FunD.bindsN F (fun _ _ _ _ _ _ us hl => match us, hl with | [_], _ => rfl), rfl, rfl, by decide +kernel⟩⟩
theorem r_law_draw (c : He.SaysD fa defs K) : ∃ fd, DefR K mg (adr K w) TB TAB k_law_draw d_law_draw ["_law_script", "_law_k", "_law_j", "_law_many", "_law_cell", "_law_turn", "_law_rest", "_law_step", "_law_one", "_law_two"] ["_law_script", "_law_k", "_law_j", "_law_many"] "_law_draw" "_law_draw" (defArgs (top 17)) (defBody (top 17)) (defScope (top 17)) fd := by
  obtain ⟨fd, F⟩ := c.def_ 8 (d := e_law_draw) rfl
  exact ⟨fd, ⟨rfl, F, ⟨rfl, rfl, rfl, by decide +kernel, rfl, by decide +kernel, by decide +kernel⟩, FunD.bindsN F (fun _ _ _ _ _ _ us hl => match us, hl with | [_, _, _, _], _ => rfl), rfl, rfl, by decide +kernel⟩⟩
theorem r_law_same (c : He.SaysD fa defs K) : ∃ fd, DefR K mg (adr K w) TB TAB k_law_same d_law_same ["_law_found", "_law_due", "_law_like", "_law_k"] ["_law_found", "_law_due"] "_law_same" "_law_same" (defArgs (top 18)) (defBody (top 18)) (defScope (top 18)) fd := by
  obtain ⟨fd, F⟩ := c.def_ 9 (d := e_law_same) rfl
  exact ⟨fd, ⟨rfl, F, ⟨rfl, rfl, rfl, by decide +kernel, rfl, by decide +kernel, by decide +kernel⟩, FunD.bindsN F (fun _ _ _ _ _ _ us hl => match us, hl with | [_, _], _ => rfl), rfl, rfl, by decide +kernel⟩⟩
theorem r_law_size (c : He.SaysD fa defs K) : ∃ fd, DefR K mg (adr K w) TB TAB k_law_size d_law_size ["_law_script", "_law_k", "_law_wide", "_law_tall", "_law_deep", "_law_sizes"] ["_law_script", "_law_k"] "_law_size" "_law_size" (defArgs (top 19)) (defBody (top 19)) (defScope (top 19)) fd := by
  obtain ⟨fd, F⟩ := c.def_ 10 (d := e_law_size) rfl
  exact ⟨fd, ⟨rfl, F, ⟨rfl, rfl, rfl, by decide +kernel, rfl, by decide +kernel, by decide +kernel⟩, FunD.bindsN F (fun _ _ _ _ _ _ us hl => match us, hl with | [_, _], _ => rfl), rfl, rfl, by decide +kernel⟩⟩
theorem r_law_rect (c : He.SaysD fa defs K) : ∃ fd, DefR K mg (adr K w) TB TAB k_law_rect d_law_rect ["_law_script", "_law_k", "_law_j", "_law_wide", "_law_tall", "_law_x", "_law_y"] ["_law_script", "_law_k", "_law_j", "_law_wide", "_law_tall"] "_law_rect" "_law_rect" (defArgs (top 20)) (defBody (top 20)) (defScope (top 20)) fd := by
  obtain ⟨fd, F⟩ := c.def_ 11 (d := e_law_rect) rfl
  exact ⟨fd, ⟨rfl, F, ⟨rfl, rfl, rfl, by decide +kernel, rfl, by decide +kernel, by decide +kernel⟩, FunD.bindsN F (fun _ _ _ _ _ _ us hl => match us, hl with | [_, _, _, _, _], _ => rfl), rfl, rfl, by decide +kernel⟩⟩
theorem r_law_steps (c : He.SaysD fa defs K) : ∃ fd, DefR K mg (adr K w) TB TAB k_law_steps d_law_steps ["_law_script", "_law_k", "_law_j", "_law_deep", "_law_at"] ["_law_script", "_law_k", "_law_j", "_law_deep"] "_law_steps" "_law_steps" (defArgs (top 21)) (defBody (top 21)) (defScope (top 21)) fd := by
  obtain ⟨fd, F⟩ := c.def_ 12 (d := e_law_steps) rfl
  exact ⟨fd, ⟨rfl, F, ⟨rfl, rfl, rfl, by decide +kernel, rfl, by decide +kernel, by decide +kernel⟩, FunD.bindsN F (fun _ _ _ _ _ _ us hl => match us, hl with | [_, _, _, _], _ => rfl), rfl, rfl, by decide +kernel⟩⟩
theorem r_law_outs (c : He.SaysD fa defs K) : ∃ fd, DefR K mg (adr K w) TB TAB k_law_outs d_law_outs ["_law_script", "_law_k", "_law_j", "_law_size_here", "_law_count", "_law_first", "_law_stride", "_law_found", "_law_at", "_law_place"] ["_law_script", "_law_k", "_law_j", "_law_size_here"] "_law_outs" "_law_outs" (defArgs (top 22)) (defBody (top 22)) (defScope (top 22)) fd := by
  obtain ⟨fd, F⟩ := c.def_ 13 (d := e_law_outs) rfl
  exact ⟨fd, ⟨rfl, F, ⟨rfl, rfl, rfl, by decide +kernel, rfl, by decide +kernel, by decide +kernel⟩, FunD.bindsN F (fun _ _ _ _ _ _ us hl => match us, hl with | [_, _, _, _], _ => rfl), rfl, rfl, by decide +kernel⟩⟩
theorem r_law_who (c : He.SaysD fa defs K) : ∃ fd, DefR K mg (adr K w) TB TAB k_law_who d_law_who ["_law_script", "_law_k", "_law_j"] ["_law_script", "_law_k", "_law_j"] "_law_who" "_law_who" (defArgs (top 23)) (defBody (top 23)) (defScope (top 23)) fd := by
  obtain ⟨fd, F⟩ := c.def_ 14 (d := e_law_who) rfl
  exact ⟨fd, ⟨rfl, F, ⟨rfl, rfl, rfl, by decide +kernel, rfl, by decide +kernel, by decide +kernel⟩, FunD.bindsN F (fun _ _ _ _ _ _ us hl => match us, hl with | [_, _, _], _ => rfl), rfl, rfl, by decide +kernel⟩⟩
theorem r_law_pick (c : He.SaysD fa defs K) : ∃ fd, DefR K mg (adr K w) TB TAB k_law_pick d_law_pick ["_law_script", "_law_k", "_law_j", "_law_names"] ["_law_script", "_law_k", "_law_j", "_law_names"] "_law_pick" "_law_pick" (defArgs (top 24)) (defBody (top 24)) (defScope (top 24)) fd := by
  obtain ⟨fd, F⟩ := c.def_ 15 (d := e_law_pick) rfl
  exact ⟨fd, ⟨rfl, F, ⟨rfl, rfl, rfl, by decide +kernel, rfl, by decide +kernel, by decide +kernel⟩, FunD.bindsN F (fun _ _ _ _ _ _ us hl => match us, hl with | [_, _, _, _], _ => rfl), rfl, rfl, by decide +kernel⟩⟩
theorem r_law_vein (c : He.SaysD fa defs K) : ∃ fd, DefR K mg (adr K w) TB TAB k_law_vein d_law_vein ["_law_script", "_law_k", "_law_size_here"] ["_law_script", "_law_k", "_law_size_here"] "_law_vein" "_law_vein" (defArgs (top 25)) (defBody (top 25)) (defScope (top 25)) fd := by
  obtain ⟨fd, F⟩ := c.def_ 16 (d := e_law_vein) rfl
  exact ⟨fd, ⟨rfl, F, ⟨rfl, rfl, rfl, by decide +kernel, rfl, by decide +kernel, by decide +kernel⟩, FunD.bindsN F (fun _ _ _ _ _ _ us hl => match us, hl with | [_, _, _], _ => rfl), rfl, rfl, by decide +kernel⟩⟩
theorem r_law_claim_fact (c : He.SaysD fa defs K) : ∃ fd, DefR K mg (adr K w) TB TAB k_law_claim_fact d_law_claim_fact ["_law_script", "_law_k", "_law_way", "_law_size_here", "_law_names", "_law_claim", "_law_who_here", "_law_side", "_law_line"] ["_law_script", "_law_k", "_law_way", "_law_size_here", "_law_names"] "_law_claim_fact" "_law_claim_fact" (defArgs (top 26)) (defBody (top 26)) (defScope (top 26)) fd := by
  obtain ⟨fd, F⟩ := c.def_ 17 (d := e_law_claim_fact) rfl
  exact ⟨fd, ⟨rfl, F, ⟨rfl, rfl, rfl, by decide +kernel, rfl, by decide +kernel, by decide +kernel⟩, FunD.bindsN F (fun _ _ _ _ _ _ us hl => match us, hl with | [_, _, _, _, _], _ => rfl), rfl, rfl, by decide +kernel⟩⟩
theorem r_law_fact (c : He.SaysD fa defs K) : ∃ fd, DefR K mg (adr K w) TB TAB k_law_fact d_law_fact ["_law_script", "_law_k", "_law_size_here", "_law_plan", "_law_way", "_law_veins", "_law_day", "_law_fact_here", "_law_names", "_law_floor"] ["_law_script", "_law_k", "_law_size_here", "_law_plan"] "_law_fact" "_law_fact" (defArgs (top 27)) (defBody (top 27)) (defScope (top 27)) fd := by
  obtain ⟨fd, F⟩ := c.def_ 18 (d := e_law_fact) rfl
  exact ⟨fd, ⟨rfl, F, ⟨rfl, rfl, rfl, by decide +kernel, rfl, by decide +kernel, by decide +kernel⟩, FunD.bindsN F (fun _ _ _ _ _ _ us hl => match us, hl with | [_, _, _, _], _ => rfl), rfl, rfl, by decide +kernel⟩⟩
theorem r_law_dig (c : He.SaysD fa defs K) : ∃ fd, DefR K mg (adr K w) TB TAB k_law_dig d_law_dig ["_law_script", "_law_k", "_law_size_here", "_law_mouth", "_law_spot", "_law_worth"] ["_law_script", "_law_k", "_law_size_here"] "_law_dig" "_law_dig" (defArgs (top 28)) (defBody (top 28)) (defScope (top 28)) fd := by
  obtain ⟨fd, F⟩ := c.def_ 19 (d := e_law_dig) rfl
  exact ⟨fd, ⟨rfl, F, ⟨rfl, rfl, rfl, by decide +kernel, rfl, by decide +kernel, by decide +kernel⟩, FunD.bindsN F (fun _ _ _ _ _ _ us hl => match us, hl with | [_, _, _], _ => rfl), rfl, rfl, by decide +kernel⟩⟩
theorem r_law_pay (c : He.SaysD fa defs K) : ∃ fd, DefR K mg (adr K w) TB TAB k_law_pay d_law_pay ["_law_script", "_law_k", "_law_giver", "_law_taker"] ["_law_script", "_law_k"] "_law_pay" "_law_pay" (defArgs (top 29)) (defBody (top 29)) (defScope (top 29)) fd := by
  obtain ⟨fd, F⟩ := c.def_ 20 (d := e_law_pay) rfl
  exact ⟨fd, ⟨rfl, F, ⟨rfl, rfl, rfl, by decide +kernel, rfl, by decide +kernel, by decide +kernel⟩, FunD.bindsN F (fun _ _ _ _ _ _ us hl => match us, hl with | [_, _], _ => rfl), rfl, rfl, by decide +kernel⟩⟩
theorem r_law_bounds (c : He.SaysD fa defs K) : ∃ fd, DefR K mg (adr K w) TB TAB k_law_bounds d_law_bounds ["_law_size_here", "_law_word", "_law_day", "_law_folk", "_law_coins", "_law_x", "_law_y", "_law_rows"] ["_law_size_here", "_law_word"] "_law_bounds" "_law_bounds" (defArgs (top 30)) (defBody (top 30)) (defScope (top 30)) fd := by
  obtain ⟨fd, F⟩ := c.def_ 21 (d := e_law_bounds) rfl
  exact ⟨fd, ⟨rfl, F, ⟨rfl, rfl, rfl, by decide +kernel, rfl, by decide +kernel, by decide +kernel⟩, FunD.bindsN F (fun _ _ _ _ _ _ us hl => match us, hl with | [_, _], _ => rfl), rfl, rfl, by decide +kernel⟩⟩
theorem r_law_some_fact (c : He.SaysD fa defs K) : ∃ fd, DefR K mg (adr K w) TB TAB k_law_some_fact d_law_some_fact ["_law_script", "_law_k", "_law_size_here", "_law_way"] ["_law_script", "_law_k", "_law_size_here"] "_law_some_fact" "_law_some_fact" (defArgs (top 31)) (defBody (top 31)) (defScope (top 31)) fd := by
  obtain ⟨fd, F⟩ := c.def_ 22 (d := e_law_some_fact) rfl
  exact ⟨fd, ⟨rfl, F, ⟨rfl, rfl, rfl, by decide +kernel, rfl, by decide +kernel, by decide +kernel⟩, FunD.bindsN F (fun _ _ _ _ _ _ us hl => match us, hl with | [_, _, _], _ => rfl), rfl, rfl, by decide +kernel⟩⟩
theorem r_law_number (c : He.SaysD fa defs K) : ∃ fd, DefR K mg (adr K w) TB TAB k_law_number d_law_number ["_law_word", "_law_many", "_law_sign", "_law_at"] ["_law_word"] "_law_number" "_law_number" (defArgs (top 32)) (defBody (top 32)) (defScope (top 32)) fd := by
  obtain ⟨fd, F⟩ := c.def_ 23 (d := e_law_number) rfl
  exact ⟨fd, ⟨rfl, F, ⟨rfl, rfl, rfl, by decide +kernel, rfl, by decide +kernel, by decide +kernel⟩, FunD.bindsN F (fun _ _ _ _ _ _ us hl => match us, hl with | [_], _ => rfl), rfl, rfl, by decide +kernel⟩⟩
theorem r_law_numbers (c : He.SaysD fa defs K) : ∃ fd, DefR K mg (adr K w) TB TAB k_law_numbers d_law_numbers ["_law_words", "_law_found", "_law_word", "_law_one"] ["_law_words"] "_law_numbers" "_law_numbers" (defArgs (top 33)) (defBody (top 33)) (defScope (top 33)) fd := by
  obtain ⟨fd, F⟩ := c.def_ 24 (d := e_law_numbers) rfl
  exact ⟨fd, ⟨rfl, F, ⟨rfl, rfl, rfl, by decide +kernel, rfl, by decide +kernel, by decide +kernel⟩, FunD.bindsN F (fun _ _ _ _ _ _ us hl => match us, hl with | [_], _ => rfl), rfl, rfl, by decide +kernel⟩⟩
theorem r_law_read_vein (c : He.SaysD fa defs K) : ∃ fd, DefR K mg (adr K w) TB TAB k_law_read_vein d_law_read_vein ["_law_words", "_law_steps_here", "_law_sign", "_law_outs_here", "_law_word", "_law_pair", "_law_step"] ["_law_words"] "_law_read_vein" "_law_read_vein" (defArgs (top 34)) (defBody (top 34)) (defScope (top 34)) fd := by
  obtain ⟨fd, F⟩ := c.def_ 25 (d := e_law_read_vein) rfl
  exact ⟨fd, ⟨rfl, F, ⟨rfl, rfl, rfl, by decide +kernel, rfl, by decide +kernel, by decide +kernel⟩, FunD.bindsN F (fun _ _ _ _ _ _ us hl => match us, hl with | [_], _ => rfl), rfl, rfl, by decide +kernel⟩⟩
theorem r_law_read (c : He.SaysD fa defs K) : ∃ fd, DefR K mg (adr K w) TB TAB k_law_read d_law_read ["_law_words", "_law_bounds_here", "_law_numbers_here"] ["_law_words"] "_law_read" "_law_read" (defArgs (top 35)) (defBody (top 35)) (defScope (top 35)) fd := by
  obtain ⟨fd, F⟩ := c.def_ 26 (d := e_law_read) rfl
  exact ⟨fd, ⟨rfl, F, ⟨rfl, rfl, rfl, by decide +kernel, rfl, by decide +kernel, by decide +kernel⟩, FunD.bindsN F (fun _ _ _ _ _ _ us hl => match us, hl with | [_], _ => rfl), rfl, rfl, by decide +kernel⟩⟩
theorem r_law_written (c : He.SaysD fa defs K) : ∃ fd, DefR K mg (adr K w) TB TAB k_law_written d_law_written ["_law_fact_here", "_law_thing", "_law_steps_here", "_law_step", "_law_cell"] ["_law_fact_here"] "_law_written" "_law_written" (defArgs (top 36)) (defBody (top 36)) (defScope (top 36)) fd := by
  obtain ⟨fd, F⟩ := c.def_ 27 (d := e_law_written) rfl
  exact ⟨fd, ⟨rfl, F, ⟨rfl, rfl, rfl, by decide +kernel, rfl, by decide +kernel, by decide +kernel⟩, FunD.bindsN F (fun _ _ _ _ _ _ us hl => match us, hl with | [_], _ => rfl), rfl, rfl, by decide +kernel⟩⟩
theorem r_law_bent (c : He.SaysD fa defs K) : ∃ fd, DefR K mg (adr K w) TB TAB k_law_bent d_law_bent ["_law_script", "_law_k", "_law_j", "_law_text", "_law_at", "_law_alphabet", "_law_sign", "_law_way"] ["_law_script", "_law_k", "_law_j", "_law_text"] "_law_bent" "_law_bent" (defArgs (top 37)) (defBody (top 37)) (defScope (top 37)) fd := by
  obtain ⟨fd, F⟩ := c.def_ 28 (d := e_law_bent) rfl
  exact ⟨fd, ⟨rfl, F, ⟨rfl, rfl, rfl, by decide +kernel, rfl, by decide +kernel, by decide +kernel⟩, FunD.bindsN F (fun _ _ _ _ _ _ us hl => match us, hl with | [_, _, _, _], _ => rfl), rfl, rfl, by decide +kernel⟩⟩
theorem r_law_told (c : He.SaysD fa defs K) : ∃ fd, DefR K mg (adr K w) TB TAB k_law_told d_law_told ["_law_text", "_law_told_here"] ["_law_text"] "_law_told" "_law_told" (defArgs (top 38)) (defBody (top 38)) (defScope (top 38)) fd := by
  obtain ⟨fd, F⟩ := c.def_ 29 (d := e_law_told) rfl
  exact ⟨fd, ⟨rfl, F, ⟨rfl, rfl, rfl, by decide +kernel, rfl, by decide +kernel, by decide +kernel⟩, FunD.bindsN F (fun _ _ _ _ _ _ us hl => match us, hl with | [_], _ => rfl), rfl, rfl, by decide +kernel⟩⟩
theorem r_law_k08 (c : He.SaysD fa defs K) : ∃ fd, DefR K mg (adr K w) TB TAB k_law_k08 d_law_k08 ["_law_script", "_law_fact_here", "_law_text", "_law_odd", "_law_k", "_law_due", "_law_told_here"] ["_law_script"] "law" "law" (defArgs (top 39)) (defBody (top 39)) (defScope (top 39)) fd := by
  obtain ⟨fd, F⟩ := c.def_ 30 (d := e_law_k08) rfl
  exact ⟨fd, ⟨rfl, F, ⟨rfl, rfl, rfl, by decide +kernel, rfl, by decide +kernel, by decide +kernel⟩, FunD.bindsN F (fun _ _ _ _ _ _ us hl => match us, hl with | [_], _ => rfl), rfl, rfl, by decide +kernel⟩⟩
theorem r_all (c : He.SaysD fa defs K) : ∀ p ∈ tabF, ∃ fdc N ps nm qual params body scope fd, DefR K mg (adr K w) TB TAB p.1 fdc N ps nm qual params body scope fd := by
  refine List.forall_mem_cons.mpr ⟨let ⟨fd, q⟩ := r_number c; ⟨_, _, _, _, _, _, _, _, fd, q⟩, ?_⟩
  refine List.forall_mem_cons.mpr ⟨let ⟨fd, q⟩ := r_numbers_of c; ⟨_, _, _, _, _, _, _, _, fd, q⟩, ?_⟩
  refine List.forall_mem_cons.mpr ⟨let ⟨fd, q⟩ := r_figure c; ⟨_, _, _, _, _, _, _, _, fd, q⟩, ?_⟩
  refine List.forall_mem_cons.mpr ⟨let ⟨fd, q⟩ := r_steps_of c; ⟨_, _, _, _, _, _, _, _, fd, q⟩, ?_⟩
  refine List.forall_mem_cons.mpr ⟨let ⟨fd, q⟩ := r_cell_of c; ⟨_, _, _, _, _, _, _, _, fd, q⟩, ?_⟩
  refine List.forall_mem_cons.mpr ⟨let ⟨fd, q⟩ := r_read_vein c; ⟨_, _, _, _, _, _, _, _, fd, q⟩, ?_⟩
  refine List.forall_mem_cons.mpr ⟨let ⟨fd, q⟩ := r_read_words c; ⟨_, _, _, _, _, _, _, _, fd, q⟩, ?_⟩
  refine List.forall_mem_cons.mpr ⟨let ⟨fd, q⟩ := r_read_fact c; ⟨_, _, _, _, _, _, _, _, fd, q⟩, ?_⟩
  refine List.forall_mem_cons.mpr ⟨let ⟨fd, q⟩ := r_law_draw c; ⟨_, _, _, _, _, _, _, _, fd, q⟩, ?_⟩
  refine List.forall_mem_cons.mpr ⟨let ⟨fd, q⟩ := r_law_same c; ⟨_, _, _, _, _, _, _, _, fd, q⟩, ?_⟩
  refine List.forall_mem_cons.mpr ⟨let ⟨fd, q⟩ := r_law_size c; ⟨_, _, _, _, _, _, _, _, fd, q⟩, ?_⟩
  refine List.forall_mem_cons.mpr ⟨let ⟨fd, q⟩ := r_law_rect c; ⟨_, _, _, _, _, _, _, _, fd, q⟩, ?_⟩
  refine List.forall_mem_cons.mpr ⟨let ⟨fd, q⟩ := r_law_steps c; ⟨_, _, _, _, _, _, _, _, fd, q⟩, ?_⟩
  refine List.forall_mem_cons.mpr ⟨let ⟨fd, q⟩ := r_law_outs c; ⟨_, _, _, _, _, _, _, _, fd, q⟩, ?_⟩
  refine List.forall_mem_cons.mpr ⟨let ⟨fd, q⟩ := r_law_who c; ⟨_, _, _, _, _, _, _, _, fd, q⟩, ?_⟩
  refine List.forall_mem_cons.mpr ⟨let ⟨fd, q⟩ := r_law_pick c; ⟨_, _, _, _, _, _, _, _, fd, q⟩, ?_⟩
  refine List.forall_mem_cons.mpr ⟨let ⟨fd, q⟩ := r_law_vein c; ⟨_, _, _, _, _, _, _, _, fd, q⟩, ?_⟩
  refine List.forall_mem_cons.mpr ⟨let ⟨fd, q⟩ := r_law_claim_fact c; ⟨_, _, _, _, _, _, _, _, fd, q⟩, ?_⟩
  refine List.forall_mem_cons.mpr ⟨let ⟨fd, q⟩ := r_law_fact c; ⟨_, _, _, _, _, _, _, _, fd, q⟩, ?_⟩
  refine List.forall_mem_cons.mpr ⟨let ⟨fd, q⟩ := r_law_dig c; ⟨_, _, _, _, _, _, _, _, fd, q⟩, ?_⟩
  refine List.forall_mem_cons.mpr ⟨let ⟨fd, q⟩ := r_law_pay c; ⟨_, _, _, _, _, _, _, _, fd, q⟩, ?_⟩
  refine List.forall_mem_cons.mpr ⟨let ⟨fd, q⟩ := r_law_bounds c; ⟨_, _, _, _, _, _, _, _, fd, q⟩, ?_⟩
  refine List.forall_mem_cons.mpr ⟨let ⟨fd, q⟩ := r_law_some_fact c; ⟨_, _, _, _, _, _, _, _, fd, q⟩, ?_⟩
  refine List.forall_mem_cons.mpr ⟨let ⟨fd, q⟩ := r_law_number c; ⟨_, _, _, _, _, _, _, _, fd, q⟩, ?_⟩
  refine List.forall_mem_cons.mpr ⟨let ⟨fd, q⟩ := r_law_numbers c; ⟨_, _, _, _, _, _, _, _, fd, q⟩, ?_⟩
  refine List.forall_mem_cons.mpr ⟨let ⟨fd, q⟩ := r_law_read_vein c; ⟨_, _, _, _, _, _, _, _, fd, q⟩, ?_⟩
  refine List.forall_mem_cons.mpr ⟨let ⟨fd, q⟩ := r_law_read c; ⟨_, _, _, _, _, _, _, _, fd, q⟩, ?_⟩
  refine List.forall_mem_cons.mpr ⟨let ⟨fd, q⟩ := r_law_written c; ⟨_, _, _, _, _, _, _, _, fd, q⟩, ?_⟩
  refine List.forall_mem_cons.mpr ⟨let ⟨fd, q⟩ := r_law_bent c; ⟨_, _, _, _, _, _, _, _, fd, q⟩, ?_⟩
  refine List.forall_mem_cons.mpr ⟨let ⟨fd, q⟩ := r_law_told c; ⟨_, _, _, _, _, _, _, _, fd, q⟩, ?_⟩
  refine List.forall_mem_cons.mpr ⟨let ⟨fd, q⟩ := r_law_k08 c; ⟨_, _, _, _, _, _, _, _, fd, q⟩, ?_⟩
  exact fun p hp => absurd hp (by simp)
theorem nmB : (tabN.all fun p => (TAB.fn p.1).isSome && (p.2.2.isSome || faG.any fun | .glo x => decide (x = p.2.1) | _ => false)) = true := by decide +kernel
theorem glo_mem {x : Str} (h : (faG.any fun | .glo y => decide (y = x) | _ => false) = true) : He.Fa.glo x ∈ fa := by
  obtain ⟨f, hf, e⟩ := List.any_eq_true.mp h
  cases f with
  | glo y =>
    obtain rfl : y = x := of_decide_eq_true e
    exact List.mem_append_left _ hf
  | _ => cases e
theorem n_all (X : K.In h) (G : h.Ns mainGlobals mg) (c : He.SaysD fa defs K) : ∀ (f : Nat) (x : Str), TB.fn f = some x → (TAB.fn f).isSome = true ∧ mg x = some (.ref ((adr K w).fn f)) := by
  intro f x e
  have e : tbF f = some x := e
  unfold tbF at e
  split at e
  · next y e1 =>
    cases e
    have := List.all_eq_true.mp nmB _ (look_mem e1)
    simp only [Bool.and_eq_true, Option.isSome_none, Bool.false_or] at this
    refine ⟨this.1, ?_⟩
    have g := He.glo_ok X G (c.facts (glo_mem this.2))
    rw [g]
    show _ = some (Value.ref (He.fAd K ((tabN.lookup f).getD ("", none))))
    rw [e1]
    rfl
  · cases e
theorem clB : (tabC.all fun p => (faG.any fun | .glo x => decide (x = p.2) | _ => false) && (match TAB.ini p.1 with
  | some f => (TAB.fn f).isSome && decide (tabN.lookup f = some (p.2, some ("__init__" : Str)))
  | none => false)) = true := by decide +kernel
theorem inB : (tabI.all fun p => (tabC.lookup p.1).isSome) = true := by decide +kernel
theorem mtB : (tabM.all fun p => (TAB.fn p.2).isSome && (match tabC.lookup p.1.1 with
  | some x => decide (tabN.lookup p.2 = some (x, some p.1.2))
  | none => false)) = true := by decide +kernel
theorem xcB : (tabX.all fun p => faG.any fun | .glo x => decide (x = p.2) | _ => false) = true := by decide +kernel
theorem suB : (tabS.all fun p => (tabX.lookup p.1.1).isSome && (tabX.lookup p.1.2).isSome) = true := by decide +kernel
theorem inC {f : He.Fa} (h : f ∈ faC) : f ∈ fa := List.mem_append_right _ (List.mem_append_right _ (List.mem_append_left _ h))
theorem inM {f : He.Fa} (h : f ∈ faM) : f ∈ fa := List.mem_append_right _ (List.mem_append_right _ (List.mem_append_right _ (List.mem_append_left _ h)))
theorem inX {f : He.Fa} (h : f ∈ faX) : f ∈ fa := List.mem_append_right _ (List.mem_append_right _ (List.mem_append_right _ (List.mem_append_right _ (List.mem_append_left _ h))))
theorem inS {f : He.Fa} (h : f ∈ faS) : f ∈ fa := List.mem_append_right _ (List.mem_append_right _ (List.mem_append_right _ (List.mem_append_right _ (List.mem_append_right _ h))))
theorem inBn {x : Str} (h : He.Fa.free x ∈ faB) : He.Fa.free x ∈ fa := List.mem_append_right _ (List.mem_append_left _ h)
theorem cl_ok (c : He.SaysD fa defs K) {i : Nat} {x : Str} (e : tabC.lookup i = some x) : Cls K ((adr K w).cl i) := by
  have := He.cls_ok (c.facts (inC (List.mem_flatMap.mpr ⟨_, look_mem e, List.mem_cons_self⟩)))
  show Cls K (He.ga K ((tabC.lookup i).getD ""))
  rw [e]
  exact this
theorem fld_all (c : He.SaysD fa defs K) : ∀ x, TB.fld x = true → ∀ i, (TAB.ini i).isSome = true → Cls K ((adr K w).cl i) ∧ NoAttr K ((adr K w).cl i) x := by
  intro x hx i hi
  obtain ⟨f, hf⟩ := Option.isSome_iff_exists.mp hi
  have h1 := List.all_eq_true.mp inB _ (look_mem (show tabI.lookup i = some f from hf))
  obtain ⟨y, hy⟩ := Option.isSome_iff_exists.mp h1
  have hx : x ∈ flds := by simpa [TB] using hx
  refine ⟨cl_ok c hy, ?_⟩
  have := He.noat_ok (c.facts (inC (List.mem_flatMap.mpr ⟨_, look_mem hy, List.mem_cons_of_mem _ (List.mem_cons_of_mem _ (List.mem_map.mpr ⟨x, hx, rfl⟩))⟩)))
  show NoAttr K (He.ga K ((tabC.lookup i).getD "")) x
  rw [hy]
  exact this
theorem mt_all (c : He.SaysD fa defs K) : ∀ m i f, TAB.mt i m = some f → (TAB.fn f).isSome = true ∧ Cls K ((adr K w).cl i) ∧ Meth K ((adr K w).cl i) m ((adr K w).fn f) := by
  intro m i f e
  have hm := look_mem (show tabM.lookup (i, m) = some f from e)
  have h1 := List.all_eq_true.mp mtB _ hm
  simp only [Bool.and_eq_true] at h1
  obtain ⟨h1, h2⟩ := h1
  split at h2
  · next x ex =>
    have ex : tabC.lookup i = some x := ex
    have h2 : tabN.lookup f = some (x, some m) := of_decide_eq_true h2
    refine ⟨h1, cl_ok c ex, ?_⟩
    have this : Meth K (He.ga K ((tabC.lookup i).getD "")) m (He.ma K (He.ga K ((tabC.lookup i).getD "")) m) := He.meth_ok (c.facts (inM (List.mem_map.mpr ⟨_, hm, rfl⟩)))
    show Meth K (He.ga K ((tabC.lookup i).getD "")) m (He.fAd K ((tabN.lookup f).getD ("", none)))
    rw [h2]
    rw [ex] at this ⊢
    exact this
  · cases h2
theorem cls_all (X : K.In h) (G : h.Ns mainGlobals mg) (c : He.SaysD fa defs K) : ∀ i x, TB.cls i = some x → mg x = some (.ref ((adr K w).cl i)) ∧ ∃ f, TAB.ini i = some f ∧ (TAB.fn f).isSome = true ∧ Mk K ((adr K w).cl i) ((adr K w).fn f) := by
  intro i x e
  have e : tabC.lookup i = some x := e
  have h1 := List.all_eq_true.mp clB _ (look_mem e)
  simp only [Bool.and_eq_true] at h1
  obtain ⟨h1, h2⟩ := h1
  split at h2
  · next f ef =>
    simp only [Bool.and_eq_true, decide_eq_true_eq] at h2
    obtain ⟨h2, h3⟩ := h2
    have g := He.glo_ok X G (c.facts (glo_mem h1))
    refine ⟨?_, f, ef, h2, ?_⟩
    · rw [g]
      show _ = some (Value.ref (He.ga K ((tabC.lookup i).getD "")))
      rw [e]
      rfl
    · have := He.mkr_ok (c.facts (inC (List.mem_flatMap.mpr ⟨_, look_mem e, List.mem_cons_of_mem _ List.mem_cons_self⟩)))
      show Mk K (He.ga K ((tabC.lookup i).getD "")) (He.fAd K ((tabN.lookup f).getD ("", none)))
      rw [e, h3]
      exact this
  · cases h2
theorem xc_all (X : K.In h) (G : h.Ns mainGlobals mg) (c : He.SaysD fa defs K) : ∀ k x, TB.xc k = some x → mg x = some (.ref ((adr K w).xc k)) ∧ PySem.W.excIn K ((adr K w).xc k) He.veBase "ValueError.__new__" = true ∧ PySem.W.keepIn K (.ref ((adr K w).xc k)) = true ∧ PySem.W.subIn K (.ref ((adr K w).xc k)) (.type "BaseException") = some true ∧ PySem.W.typeIn K (.ref ((adr K w).xc k)) = some (.type "type") := by
  intro k x e
  have e : tabX.lookup k = some x := e
  have h1 := List.all_eq_true.mp xcB _ (look_mem e)
  have g := He.glo_ok X G (c.facts (glo_mem h1))
  have ek : (adr K w).xc k = He.ga K x := by
    show He.ga K ((tabX.lookup k).getD "") = _
    rw [e]
    rfl
  rw [ek]
  exact ⟨g, He.exc_ok (c.facts (inX (List.mem_map.mpr ⟨_, look_mem e, rfl⟩)))⟩
theorem sub_all (c : He.SaysD fa defs K) : ∀ k j b, TAB.sub j k = some b → PySem.W.exmOne K (.ref ((adr K w).xc k)) (.ref ((adr K w).xc j)) = some b := by
  intro k j b e
  have hm := look_mem (show tabS.lookup (j, k) = some b from e)
  exact He.exm_ok (c.facts (inS (List.mem_map.mpr ⟨_, hm, rfl⟩)))

theorem g_all (X : K.In h) (G : h.Ns mainGlobals mg) (c : He.SaysT fa defs tabs w K) (cx : exB K = true) (b : Bool) : ∀ p ∈ tabG, GvOk ((adr K w).b b) K mg p.1 p.2 := by
  refine gvAll_ok (A := (adr K w).b b) X G ?_ cx
  refine List.forall_mem_cons.mpr ⟨fun z => (nomatch z), ?_⟩
  refine List.forall_mem_cons.mpr ⟨fun _ => c.tab 0 (t := (fun K => He.ga K "LENGTHS", ([(txS [118, 101, 105, 110]), (txS [106, 111, 105, 110]), (txS [115, 116, 97, 107, 101]), (txS [119, 111, 114, 107]), (txS [115, 101, 108, 108]), (txS [112, 97, 114, 116]), (txS [103, 105, 118, 101]), (txS [100, 105, 103]), (txS [112, 97, 121])] : List Str))) rfl, ?_⟩
  exact fun p hp => absurd hp (by simp)
theorem mo (X : K.In h) (G : h.Ns mainGlobals mg) (c : He.SaysT fa defs tabs w K) (cx : exB K = true) : Mo K mg (adr K w) TB TAB where
  df := fun f e => by
    obtain ⟨fd, e⟩ := Option.isSome_iff_exists.mp e
    exact r_all c.d (f, fd) (look_mem e)
  nm := n_all X G c.d
  gv := fun x _ d e b => g_all X G c cx b (x, d) (look_mem e)
  xc := xc_all X G c.d
  hot := rfl
  fld := fld_all c.d
  mt := mt_all c.d
  cls := cls_all X G c.d
  sub := sub_all c.d
  no := fun x hx => He.free_ok X G (c.d.facts (inBn (List.mem_map.mpr ⟨x, hx, rfl⟩)))
end
end Pl
namespace Pl
open PySem PySem.Spec
local macro_rules | `(tactic| simp? only [$xs,*]) => `(tactic| simp only [vO_v, wO_v, wO_o, bind_ok, bind_ex, of_some, bool_ok, bool_ex, val_v, val_l, val_d, val_ex, flow_ok, flow_ex, cO_some, chO_some, tuO_t, tuO_f, tru_n, tru_b, tru_l0, tru_l1, tru_t, tyO_some, iO_some, nO_some, gO_some, rgO_some, rhO_some, enO_t, enO_l, enO_k, enO_n, apO_o, rfO_r, stO_some, roO_o, roO_v, trO_n, trO_t, trO_b, trO_c, trO_r, trO_ite, sq_n, sq_t, sq_b, sq_c, sq_r, sq_ite, e_var, e_brw, e_int, e_str, e_bl, e_non, e_gv, qbin2, qbin1, e_bin, qneg1, e_neg, qix2, qix1, e_ix, qsl1, e_sl, qslA2, qslA1, e_slA, qslB2, qslB1, e_slB, qrev1, e_rev, qbox1, e_box, qisi1, e_isi, qcmp2, qcmp1, e_cmp, qcha2, qcha1, e_chain, qnt, e_nt, qand, e_and, qor, e_or, qorv, e_orv, qite, e_ite, qtup, e_tup, qlst, e_lst, qdsp, e_dsp, e_dnT, qcall, e_cv, cvO_f, e_call, qbi, e_bi, qbm2, qbm1, e_bm, qslAB3, qslAB2, qslAB1, e_slAB, qsome, qL, q_bLc, q_cLcI, q_bLcI, qlc, e_lc, qlcI, e_lcI, q_bLcx, qlcx, e_lcx, qes2, qes1, es_nil, es_cons, fsO_s, qfs1, fs_nil, fs_cons, qfst, e_fst, qrs2, qrs1, rs_nil, rs_cons, qitE, zpO_s, rvO_s, qzpb, qzpa, it_zp, qrvi, it_rv, it_e, qrg1, it_rg1, qrgb, qrga, it_rg2, qen, it_en, q_nxt, asg_n, asg_l, asg_d, asg_lb, asg_b, asg_t, asg_tk, setAll_nil, setAll_cons, setG_n, setG_t, setG_tk, wipe_nil, wipe_cons, z_asg, own_l, own_b, z_own, qapn, z_apn, qseta, qsetb, z_setO, z_frz, qaixc, qaixb, qaixa, z_asgIx, qdrop, z_drop, qret, z_ret, z_retO, z_retN, qsit, z_ite, qfor, z_fr, z_whl, z_rse, z_tr, insO_some, mtO_some, rkO_some, rkD_some, skO_some, hdO_f, hdO_n, hdO_t, hdO_b, hdO_c, qfld, e_fld, qmth2, qmth, e_mth, qmk2, qmk, e_mk, qasfb, qasfa, z_asgF, qrcb, qrca, it_rg3, qrdb, qrda, it_rgd, qsrk, e_srtk, hs_nil, hs_cons, z_pass, z_brk, z_cont, zz_nil, zz_cons, end_n, end_t, end_r, end_ite, atI_n, if_andB, if_orB, bind_ite, flow_ite, val_ite, bool_ite, b_add, b_sub, b_mul, b_mod, b_fdiv, b_pow, c_lt, c_le, c_gt, c_ge, c_eq, c_ne, c_in, c_nin, eqR_int, intR_i, not_some, brwL_f, brwB_f, sqOf_l, sqOf_tup, sqOf_tpk, sqOf_lst, sqOf_lsk, lsOf_lst, lsOf_lsk, lsOf_l, revR_l, revR_lst, revR_tup, revR_ref, lmOf_l, lmOf_lst, len_tup, ix_tup, len_tpk, ix_tpk, len_lst, ix_lst, len_lsk, ix_lsk, len_l, ix_l, src_tup, src_lst, src_lsk, src_l, ty_non, ty_bl, ty_int, ty_str, ty_tup, ty_tpk, ty_lst, ty_lsk, ty_l, min_i, max_i, cat_ll, cat_ls, cat_sl, cat_ss, cat_tt, abs_i, list_tup, list_tpk, list_lst, list_lsk, list_l, tuple_tup, tuple_lst, tuple_lsk, tuple_l, is_non_int, is_non_bool, is_non_str, is_non_tup, is_non_lst, is_bl_int, is_bl_bool, is_bl_str, is_bl_tup, is_bl_lst, is_int_int, is_int_bool, is_int_str, is_int_tup, is_int_lst, is_str_int, is_str_bool, is_str_str, is_str_tup, is_str_lst, is_tup_int, is_tup_bool, is_tup_str, is_tup_tup, is_tup_lst, is_lst_int, is_lst_bool, is_lst_str, is_lst_tup, is_lst_lst, eqR_bl, eqR_non, sz0, sz1, sz2, sz3, sz4, sz5, sz6, sz7, sz8, sz9, sz10, sz11, sz12, sz13, sz14, sz15, List.length_cons, List.length_nil, List.map_cons, List.map_nil, List.replicate_succ, List.replicate_zero, List.cons_append, List.nil_append, List.append_nil, List.set_cons_succ, List.set_cons_zero, List.getElem?_cons_succ, List.getElem?_cons_zero, Option.map_some, Option.map_none, if_true, if_false, ite_true, ite_false, and_true, true_and, and_self, Bool.not_true, Bool.not_false, Bool.true_or, Bool.false_or, Bool.or_true, Bool.or_false, Bool.and_true, Bool.true_and, Bool.false_and, Bool.and_false, Nat.zero_add, Nat.add_zero, Nat.reduceAdd, Nat.reduceSub, reduceIte, reduceCtorEq, Bool.false_eq_true, decide_eq_true_eq, Bool.not_eq_true', decide_eq_false_iff_not, decide_true, decide_false, Bool.decide_eq_true, ← Bool.decide_and, ← Bool.decide_or, ← decide_not, Int.reducePow, Int.reduceNeg, Int.reduceLT, Int.reduceLE, Int.reduceAdd, Int.reduceSub, Int.reduceMul, Int.reduceMod, Int.reduceDiv, Int.reduceToNat, Int.reduceEq, Int.reduceNe, Nat.reduceLT, Nat.reduceLeDiff, Nat.reducePow, Int.cast_ofNat_Int, Int.ofNat_eq_natCast, mulOk_l, mulOk_m, lg10, natAbs_lit, natAbs_cast, Int.sub_zero, Int.zero_add, atI_cast, List.any_cons, List.any_nil, List.all_cons, List.all_nil, not_true_eq_false, not_false_eq_true, pair_some, $xs,*])
local macro_rules | `(tactic| dsimp? only [$xs,*]) => `(tactic| simp (disch := first | assumption | omega | decide | (refine eq_true ?_; omega) | (simp only [List.length_cons, List.length_nil, List.length_append, List.length_map]; omega)) only [vO_v, wO_v, wO_o, bind_ok, bind_ex, of_some, bool_ok, bool_ex, val_v, val_l, val_d, val_ex, flow_ok, flow_ex, cO_some, chO_some, tuO_t, tuO_f, tru_n, tru_b, tru_l0, tru_l1, tru_t, tyO_some, iO_some, nO_some, gO_some, rgO_some, rhO_some, enO_t, enO_l, enO_k, enO_n, apO_o, rfO_r, stO_some, roO_o, roO_v, trO_n, trO_t, trO_b, trO_c, trO_r, trO_ite, sq_n, sq_t, sq_b, sq_c, sq_r, sq_ite, e_var, e_brw, e_int, e_str, e_bl, e_non, e_gv, qbin2, qbin1, e_bin, qneg1, e_neg, qix2, qix1, e_ix, qsl1, e_sl, qslA2, qslA1, e_slA, qslB2, qslB1, e_slB, qrev1, e_rev, qbox1, e_box, qisi1, e_isi, qcmp2, qcmp1, e_cmp, qcha2, qcha1, e_chain, qnt, e_nt, qand, e_and, qor, e_or, qorv, e_orv, qite, e_ite, qtup, e_tup, qlst, e_lst, qdsp, e_dsp, e_dnT, qcall, e_cv, cvO_f, e_call, qbi, e_bi, qbm2, qbm1, e_bm, qslAB3, qslAB2, qslAB1, e_slAB, qsome, qL, q_bLc, q_cLcI, q_bLcI, qlc, e_lc, qlcI, e_lcI, q_bLcx, qlcx, e_lcx, qes2, qes1, es_nil, es_cons, fsO_s, qfs1, fs_nil, fs_cons, qfst, e_fst, qrs2, qrs1, rs_nil, rs_cons, qitE, zpO_s, rvO_s, qzpb, qzpa, it_zp, qrvi, it_rv, it_e, qrg1, it_rg1, qrgb, qrga, it_rg2, qen, it_en, q_nxt, asg_n, asg_l, asg_d, asg_lb, asg_b, asg_t, asg_tk, setAll_nil, setAll_cons, setG_n, setG_t, setG_tk, wipe_nil, wipe_cons, z_asg, own_l, own_b, z_own, qapn, z_apn, qseta, qsetb, z_setO, z_frz, qaixc, qaixb, qaixa, z_asgIx, qdrop, z_drop, qret, z_ret, z_retO, z_retN, qsit, z_ite, qfor, z_fr, z_whl, z_rse, z_tr, insO_some, mtO_some, rkO_some, rkD_some, skO_some, hdO_f, hdO_n, hdO_t, hdO_b, hdO_c, qfld, e_fld, qmth2, qmth, e_mth, qmk2, qmk, e_mk, qasfb, qasfa, z_asgF, qrcb, qrca, it_rg3, qrdb, qrda, it_rgd, qsrk, e_srtk, hs_nil, hs_cons, z_pass, z_brk, z_cont, zz_nil, zz_cons, end_n, end_t, end_r, end_ite, atI_n, if_andB, if_orB, bind_ite, flow_ite, val_ite, bool_ite, b_add, b_sub, b_mul, b_mod, b_fdiv, b_pow, c_lt, c_le, c_gt, c_ge, c_eq, c_ne, c_in, c_nin, eqR_int, intR_i, not_some, brwL_f, brwB_f, sqOf_l, sqOf_tup, sqOf_tpk, sqOf_lst, sqOf_lsk, lsOf_lst, lsOf_lsk, lsOf_l, revR_l, revR_lst, revR_tup, revR_ref, lmOf_l, lmOf_lst, len_tup, ix_tup, len_tpk, ix_tpk, len_lst, ix_lst, len_lsk, ix_lsk, len_l, ix_l, src_tup, src_lst, src_lsk, src_l, ty_non, ty_bl, ty_int, ty_str, ty_tup, ty_tpk, ty_lst, ty_lsk, ty_l, min_i, max_i, cat_ll, cat_ls, cat_sl, cat_ss, cat_tt, abs_i, list_tup, list_tpk, list_lst, list_lsk, list_l, tuple_tup, tuple_lst, tuple_lsk, tuple_l, is_non_int, is_non_bool, is_non_str, is_non_tup, is_non_lst, is_bl_int, is_bl_bool, is_bl_str, is_bl_tup, is_bl_lst, is_int_int, is_int_bool, is_int_str, is_int_tup, is_int_lst, is_str_int, is_str_bool, is_str_str, is_str_tup, is_str_lst, is_tup_int, is_tup_bool, is_tup_str, is_tup_tup, is_tup_lst, is_lst_int, is_lst_bool, is_lst_str, is_lst_tup, is_lst_lst, eqR_bl, eqR_non, List.length_cons, List.length_nil, List.map_cons, List.map_nil, List.replicate_succ, List.replicate_zero, List.cons_append, List.nil_append, List.append_nil, List.set_cons_succ, List.set_cons_zero, List.getElem?_cons_succ, List.getElem?_cons_zero, Option.map_some, Option.map_none, if_true, if_false, ite_true, ite_false, and_true, true_and, and_self, Bool.not_true, Bool.not_false, Bool.true_or, Bool.false_or, Bool.or_true, Bool.or_false, Bool.and_true, Bool.true_and, Bool.false_and, Bool.and_false, Nat.zero_add, Nat.add_zero, Nat.reduceAdd, Nat.reduceSub, reduceIte, reduceCtorEq, Bool.false_eq_true, decide_eq_true_eq, Bool.not_eq_true', decide_eq_false_iff_not, decide_true, decide_false, Bool.decide_eq_true, ← Bool.decide_and, ← Bool.decide_or, ← decide_not, Int.reducePow, Int.reduceNeg, Int.reduceLT, Int.reduceLE, Int.reduceAdd, Int.reduceSub, Int.reduceMul, Int.reduceMod, Int.reduceDiv, Int.reduceToNat, Int.reduceEq, Int.reduceNe, Nat.reduceLT, Nat.reduceLeDiff, Nat.reducePow, Int.cast_ofNat_Int, Int.ofNat_eq_natCast, lg10, natAbs_lit, natAbs_cast, Int.sub_zero, Int.zero_add, atI_cast, List.any_cons, List.any_nil, List.all_cons, List.all_nil, not_true_eq_false, not_false_eq_true, pair_some, PySem.sizeLine_eq, if_pos, if_neg, mulOk_J, mulOk_I, refL_l, refL_k, refL_t, refL_i, refK_k, ls_ref, lm_ref, sq_ref, ix_ref, ixO_l, ixO_ki, ixO_ks, dg_ref, dgO_ki, dgO_ks, dgO_t, get_ref, get2_ref, in_ref, inO_l, inO_ki, inO_ks, src_ref, srcO_l, len_ref, lenOb_l, lenOb_k, list_ref, tuple_ref, dict_ref, ty_ref, tyOb_l, sl_ref, sl_lst, sl_l, box_l, box_d, box_t, app_ref, apO_l, ok_ref, okb_get_k, okb_get_t, okb_get2_k, okb_get2_t, okb_pop_k, okb_app, okb_pop, okb_popI, popI_ref, popI_l, pop1_s, okb_setd_t, okb_clear, okb_insert, okb_index, okb_count, ok_index_lst, ok_index_l, put_ref, putO_ki, putO_ks, gS0, gSk, gSlt, sS0, sSk, sSlt, keyD_i, keyD_s, len_sto, putM_nil, putM_s, putM_i, mergeA_f, List.foldl_cons, List.foldl_nil, getA_s, getA_i, inR_dck, ixR_dck, isSome_s, isSome_n, List.zip_cons_cons, List.zip_nil_left, List.zip_nil_right, noLs_n, noLs_c, noLs_a, noLs_mt, noLs_mi, noLs_mn, noLs_mtn, noL_t, noL_i, noL_x, noL_b, noL_r, noL_tup, Bool.and_true, Bool.true_and, Bool.and_self, atI_neg1, List.getLast?_cons_cons, List.getLast?_singleton, len_t, add_t, sl_t, ix_t, eq_t, in_t, src_t, find_ok, find_t, join_ok, split_ok, txS_eq, List.cons.injEq, List.cons_ne_nil, Nat.reduceEqDiff, getA_cons, getA_nil, putA_cons, putA_nil, Sum.inl.injEq, Sum.inr.injEq, reduceCtorEq, List.append_assoc, Option.isSome_some, Option.isSome_none, Option.isNone_some, Option.isNone_none, isN_non, isN_int, isN_str, isN_tup, isN_ref, isN_o, notN_non, notN_int, notN_str, notN_tup, notN_ref, notN_o, any_l, all_l, $xs,*])
local macro_rules | `(tactic| simp_all? only [$xs,*]) => `(tactic| simp (disch := first | assumption | omega | decide | (refine eq_true ?_; omega) | (simp only [List.length_cons, List.length_nil, List.length_append, List.length_map]; omega)) only [vO_v, wO_v, wO_o, bind_ok, bind_ex, of_some, bool_ok, bool_ex, val_v, val_l, val_d, val_ex, flow_ok, flow_ex, cO_some, chO_some, tuO_t, tuO_f, tru_n, tru_b, tru_l0, tru_l1, tru_t, tyO_some, iO_some, nO_some, gO_some, rgO_some, rhO_some, enO_t, enO_l, enO_k, enO_n, apO_o, rfO_r, stO_some, roO_o, roO_v, trO_n, trO_t, trO_b, trO_c, trO_r, trO_ite, sq_n, sq_t, sq_b, sq_c, sq_r, sq_ite, e_var, e_brw, e_int, e_str, e_bl, e_non, e_gv, qbin2, qbin1, e_bin, qneg1, e_neg, qix2, qix1, e_ix, qsl1, e_sl, qslA2, qslA1, e_slA, qslB2, qslB1, e_slB, qrev1, e_rev, qbox1, e_box, qisi1, e_isi, qcmp2, qcmp1, e_cmp, qcha2, qcha1, e_chain, qnt, e_nt, qand, e_and, qor, e_or, qorv, e_orv, qite, e_ite, qtup, e_tup, qlst, e_lst, qdsp, e_dsp, e_dnT, qcall, e_cv, cvO_f, e_call, qbi, e_bi, qbm2, qbm1, e_bm, qslAB3, qslAB2, qslAB1, e_slAB, qsome, qL, q_bLc, q_cLcI, q_bLcI, qlc, e_lc, qlcI, e_lcI, q_bLcx, qlcx, e_lcx, qes2, qes1, es_nil, es_cons, fsO_s, qfs1, fs_nil, fs_cons, qfst, e_fst, qrs2, qrs1, rs_nil, rs_cons, qitE, zpO_s, rvO_s, qzpb, qzpa, it_zp, qrvi, it_rv, it_e, qrg1, it_rg1, qrgb, qrga, it_rg2, qen, it_en, q_nxt, asg_n, asg_l, asg_d, asg_lb, asg_b, asg_t, asg_tk, setAll_nil, setAll_cons, setG_n, setG_t, setG_tk, wipe_nil, wipe_cons, z_asg, own_l, own_b, z_own, qapn, z_apn, qseta, qsetb, z_setO, z_frz, qaixc, qaixb, qaixa, z_asgIx, qdrop, z_drop, qret, z_ret, z_retO, z_retN, qsit, z_ite, qfor, z_fr, z_whl, z_rse, z_tr, insO_some, mtO_some, rkO_some, rkD_some, skO_some, hdO_f, hdO_n, hdO_t, hdO_b, hdO_c, qfld, e_fld, qmth2, qmth, e_mth, qmk2, qmk, e_mk, qasfb, qasfa, z_asgF, qrcb, qrca, it_rg3, qrdb, qrda, it_rgd, qsrk, e_srtk, hs_nil, hs_cons, z_pass, z_brk, z_cont, zz_nil, zz_cons, end_n, end_t, end_r, end_ite, atI_n, if_andB, if_orB, bind_ite, flow_ite, val_ite, bool_ite, b_add, b_sub, b_mul, b_mod, b_fdiv, b_pow, c_lt, c_le, c_gt, c_ge, c_eq, c_ne, c_in, c_nin, eqR_int, intR_i, not_some, brwL_f, brwB_f, sqOf_l, sqOf_tup, sqOf_tpk, sqOf_lst, sqOf_lsk, lsOf_lst, lsOf_lsk, lsOf_l, revR_l, revR_lst, revR_tup, revR_ref, lmOf_l, lmOf_lst, len_tup, ix_tup, len_tpk, ix_tpk, len_lst, ix_lst, len_lsk, ix_lsk, len_l, ix_l, src_tup, src_lst, src_lsk, src_l, ty_non, ty_bl, ty_int, ty_str, ty_tup, ty_tpk, ty_lst, ty_lsk, ty_l, min_i, max_i, cat_ll, cat_ls, cat_sl, cat_ss, cat_tt, abs_i, list_tup, list_tpk, list_lst, list_lsk, list_l, tuple_tup, tuple_lst, tuple_lsk, tuple_l, is_non_int, is_non_bool, is_non_str, is_non_tup, is_non_lst, is_bl_int, is_bl_bool, is_bl_str, is_bl_tup, is_bl_lst, is_int_int, is_int_bool, is_int_str, is_int_tup, is_int_lst, is_str_int, is_str_bool, is_str_str, is_str_tup, is_str_lst, is_tup_int, is_tup_bool, is_tup_str, is_tup_tup, is_tup_lst, is_lst_int, is_lst_bool, is_lst_str, is_lst_tup, is_lst_lst, eqR_bl, eqR_non, List.length_cons, List.length_nil, List.map_cons, List.map_nil, List.replicate_succ, List.replicate_zero, List.cons_append, List.nil_append, List.append_nil, List.set_cons_succ, List.set_cons_zero, List.getElem?_cons_succ, List.getElem?_cons_zero, Option.map_some, Option.map_none, if_true, if_false, ite_true, ite_false, and_true, true_and, and_self, Bool.not_true, Bool.not_false, Bool.true_or, Bool.false_or, Bool.or_true, Bool.or_false, Bool.and_true, Bool.true_and, Bool.false_and, Bool.and_false, Nat.zero_add, Nat.add_zero, Nat.reduceAdd, Nat.reduceSub, reduceIte, reduceCtorEq, Bool.false_eq_true, decide_eq_true_eq, Bool.not_eq_true', decide_eq_false_iff_not, decide_true, decide_false, Bool.decide_eq_true, ← Bool.decide_and, ← Bool.decide_or, ← decide_not, Int.reducePow, Int.reduceNeg, Int.reduceLT, Int.reduceLE, Int.reduceAdd, Int.reduceSub, Int.reduceMul, Int.reduceMod, Int.reduceDiv, Int.reduceToNat, Int.reduceEq, Int.reduceNe, Nat.reduceLT, Nat.reduceLeDiff, Nat.reducePow, Int.cast_ofNat_Int, Int.ofNat_eq_natCast, lg10, natAbs_lit, natAbs_cast, Int.sub_zero, Int.zero_add, atI_cast, List.any_cons, List.any_nil, List.all_cons, List.all_nil, not_true_eq_false, not_false_eq_true, pair_some, PySem.sizeLine_eq, if_pos, if_neg, mulOk_J, mulOk_I, refL_l, refL_k, refL_t, refL_i, refK_k, ls_ref, lm_ref, sq_ref, ix_ref, ixO_l, ixO_ki, ixO_ks, dg_ref, dgO_ki, dgO_ks, dgO_t, get_ref, get2_ref, in_ref, inO_l, inO_ki, inO_ks, src_ref, srcO_l, len_ref, lenOb_l, lenOb_k, list_ref, tuple_ref, dict_ref, ty_ref, tyOb_l, sl_ref, sl_lst, sl_l, box_l, box_d, box_t, app_ref, apO_l, ok_ref, okb_get_k, okb_get_t, okb_get2_k, okb_get2_t, okb_pop_k, okb_app, okb_pop, okb_popI, popI_ref, popI_l, pop1_s, okb_setd_t, okb_clear, okb_insert, okb_index, okb_count, ok_index_lst, ok_index_l, put_ref, putO_ki, putO_ks, gS0, gSk, gSlt, sS0, sSk, sSlt, keyD_i, keyD_s, len_sto, putM_nil, putM_s, putM_i, mergeA_f, List.foldl_cons, List.foldl_nil, getA_s, getA_i, inR_dck, ixR_dck, isSome_s, isSome_n, List.zip_cons_cons, List.zip_nil_left, List.zip_nil_right, noLs_n, noLs_c, noLs_a, noLs_mt, noLs_mi, noLs_mn, noLs_mtn, noL_t, noL_i, noL_x, noL_b, noL_r, noL_tup, Bool.and_true, Bool.true_and, Bool.and_self, atI_neg1, List.getLast?_cons_cons, List.getLast?_singleton, len_t, add_t, sl_t, ix_t, eq_t, in_t, src_t, find_ok, find_t, join_ok, split_ok, txS_eq, List.cons.injEq, List.cons_ne_nil, Nat.reduceEqDiff, getA_cons, getA_nil, putA_cons, putA_nil, Sum.inl.injEq, Sum.inr.injEq, reduceCtorEq, List.append_assoc, Option.isSome_some, Option.isSome_none, Option.isNone_some, Option.isNone_none, isN_non, isN_int, isN_str, isN_tup, isN_ref, isN_o, notN_non, notN_int, notN_str, notN_tup, notN_ref, notN_o, any_l, all_l, $xs,*, *])
def f_vein : List Nat := [118, 101, 105, 110]
def f_join : List Nat := [106, 111, 105, 110]
def f_stake : List Nat := [115, 116, 97, 107, 101]
def f_work : List Nat := [119, 111, 114, 107]
def f_sell : List Nat := [115, 101, 108, 108]
def f_part : List Nat := [112, 97, 114, 116]
def f_give : List Nat := [103, 105, 118, 101]
def f_dig : List Nat := [100, 105, 103]
def f_pay : List Nat := [112, 97, 121]
def szD (w t d : Int) : D := .tup [.int w, .int t, .int d]

def pD (p : Int × Int) : D := .tup [.int p.1, .int p.2]
theorem gd_pairs : ∀ l : List (Int × Int), gds (l.map pD) = true
  | [] => rfl
  | p :: l => by simp only [List.map_cons, gds, gd_pairs l, pD, gd, List.length_cons, List.length_nil]; rfl
theorem dp_pairs : ∀ l : List (Int × Int), dps (l.map pD) ≤ 1
  | [] => by simp [dps]
  | p :: l => by
    have := dp_pairs l
    simp only [List.map_cons, dps, pD, dp]
    omega
theorem mem_pairs (x y : Int) (l : List (Int × Int)) : (D.tup [.int x, .int y] ∈ l.map pD) ↔ (x, y) ∈ l := by
  rw [List.mem_map]
  constructor
  · rintro ⟨p, hp, e⟩
    simp only [pD, D.tup.injEq, List.cons.injEq, D.int.injEq] at e
    rcases p with ⟨u, v⟩
    simp only [and_true] at e
    obtain ⟨rfl, rfl⟩ := e
    exact hp
  · intro h
    exact ⟨_, h, rfl⟩

abbrev Ce := List (Nat × Ob)
def CAt (S : Sto) (cs : Ce) : Prop := (cs.map Prod.fst).Nodup ∧ ∀ p ∈ cs, S[p.1]? = some p.2
open Classical in
noncomputable def c1 (z p : Nat × Ob) : Nat := if p = z then 1 else 0
theorem sto_lt {S : Sto} {a : Nat} {o : Ob} (h : S[a]? = some o) : a < S.length := by
  by_cases l : a < S.length
  · exact l
  · rw [List.getElem?_eq_none (by omega)] at h
    cases h
theorem CAt.get {S : Sto} {cs : Ce} (h : CAt S cs) {a : Nat} {o : Ob} (m : (a, o) ∈ cs) : S[a]? = some o := h.2 _ m
theorem CAt.hd {S : Sto} {cs : Ce} {a : Nat} {o : Ob} (h : CAt S ((a, o) :: cs)) : S[a]? = some o := h.2 _ List.mem_cons_self
theorem CAt.tl {S : Sto} {cs : Ce} {p : Nat × Ob} (h : CAt S (p :: cs)) : CAt S cs := ⟨(List.nodup_cons.mp h.1).2, fun q hq => h.2 q (List.mem_cons_of_mem _ hq)⟩
theorem CAt.ne {S : Sto} {cs : Ce} {a b : Nat} {o o' : Ob} (h : CAt S ((a, o) :: cs)) (m : (b, o') ∈ cs) : a ≠ b := fun e => (List.nodup_cons.mp h.1).1 (e ▸ List.mem_map.mpr ⟨_, m, rfl⟩)
theorem CAt.set {S : Sto} {cs : Ce} {a : Nat} {o : Ob} (h : CAt S ((a, o) :: cs)) (o' : Ob) : CAt (S.set a o') ((a, o') :: cs) := by
  refine ⟨h.1, fun q hq => ?_⟩
  rcases List.mem_cons.mp hq with e | hq
  · subst e
    exact List.getElem?_set_self (sto_lt h.hd)
  · rw [List.getElem?_set_ne (h.ne (b := q.1) (o' := q.2) hq)]
    exact h.tl.2 q hq
theorem CAt.nil (S : Sto) : CAt S [] := ⟨List.nodup_nil, fun q hq => by cases hq⟩
/-- lists of pairs by a number -/
def lk {α : Type} (k : Int) : List (Int × α) → Option α
  | [] => none
  | (j, a) :: r => if j = k then some a else lk k r
mutual
/-- the same by value and by kind -/
inductive Sm : D → D → Prop
  | int (i : Int) : Sm (.int i) (.int i)
  | bl (b : Bool) : Sm (.bl b) (.bl b)
  | non : Sm .non .non
  | str (x : Str) : PyData.canLay0 (.str x) = true → Sm (.str x) (.str x)
  | tt {as bs : List D} : bs.length ≤ 16777216 → Sms as bs → Sm (.tup as) (.tup bs)
  | tk {as bs : List D} : bs.length ≤ 16777216 → Sms as bs → Sm (.tup as) (.tpk bs)
  | kt {as bs : List D} : bs.length ≤ 16777216 → Sms as bs → Sm (.tpk as) (.tup bs)
  | kk {as bs : List D} : bs.length ≤ 16777216 → Sms as bs → Sm (.tpk as) (.tpk bs)
  | ll {as bs : List D} : bs.length ≤ 16777216 → Sms as bs → Sm (.lst as) (.lst bs)
  | lk {as bs : List D} : bs.length ≤ 16777216 → Sms as bs → Sm (.lst as) (.lsk bs)
  | kl {as bs : List D} : bs.length ≤ 16777216 → Sms as bs → Sm (.lsk as) (.lst bs)
  | mm {as bs : List D} : bs.length ≤ 16777216 → Sms as bs → Sm (.lsk as) (.lsk bs)
inductive Sms : List D → List D → Prop
  | nil : Sms [] []
  | cons {a b : D} {as bs : List D} : Sm a b → Sms as bs → Sms (a :: as) (b :: bs)
end
theorem Sms.length : ∀ {as bs : List D}, Sms as bs → as.length = bs.length
  | _, _, .nil => rfl
  | _, _, .cons _ h => by rw [List.length_cons, List.length_cons, h.length]
theorem Sms.get : ∀ {as bs : List D}, Sms as bs → ∀ {k : Nat} {b : D}, bs[k]? = some b → ∃ a, as[k]? = some a ∧ Sm a b
  | _, _, .nil, k, b, h => by simp at h
  | _, _, .cons h0 r, 0, b, h => by
    cases h
    exact ⟨_, rfl, h0⟩
  | _, _, .cons h0 r, k + 1, b, h => r.get (by simpa using h)
theorem dps_get : ∀ {bs : List D} {k : Nat} {b : D}, bs[k]? = some b → dp b ≤ dps bs
  | [], k, b, h => by simp at h
  | c :: bs, 0, b, h => by
    cases h
    simp only [dps]
    omega
  | c :: bs, k + 1, b, h => by
    have := dps_get (bs := bs) (k := k) (by simpa using h)
    simp only [dps]
    omega

theorem getA_no {w : List Nat} {ws : List (List Nat)} (h : w ∉ ws) : ∀ (ds : List D), getA (txS w) ((ws.map txS).zip ds) = none := by
  induction ws with
  | nil => intro ds; rfl
  | cons x ws ih =>
    intro ds
    rw [List.mem_cons, not_or] at h
    cases ds with
    | nil => rfl
    | cons d ds =>
      rw [List.map_cons, List.zip_cons_cons]
      show (if txS x = txS w then some d else getA (txS w) ((ws.map txS).zip ds)) = none
      rw [if_neg fun e => h.1 (txS_inj e).symm, ih h.2]
def F9 : List (List Nat) := [f_vein, f_join, f_stake, f_work, f_sell, f_part, f_give, f_dig, f_pay]
inductive Fa where
  | vein (ss : List Int) (cs : List (Int × Int))
  | join (a b f : Int)
  | stake (p x y u v : Int)
  | work (c : Int)
  | sell (c p : Int)
  | part (c s l p : Int)
  | give (c : Int)
  | dig (p x y u v z n : Int)
  | pay (p q n : Int)
def faW : Fa → List Nat
  | .vein _ _ => f_vein
  | .join _ _ _ => f_join
  | .stake _ _ _ _ _ => f_stake
  | .work _ => f_work
  | .sell _ _ => f_sell
  | .part _ _ _ _ => f_part
  | .give _ => f_give
  | .dig _ _ _ _ _ _ _ => f_dig
  | .pay _ _ _ => f_pay
def faDs : Fa → List D
  | .vein ss cs => [.tup (ss.map .int), .tup (cs.map pD)]
  | .join a b f => [.int a, .int b, .int f]
  | .stake p x y u v => [.int p, .int x, .int y, .int u, .int v]
  | .work c => [.int c]
  | .sell c p => [.int c, .int p]
  | .part c s l p => [.int c, .int s, .int l, .int p]
  | .give c => [.int c]
  | .dig p x y u v z n => [.int p, .int x, .int y, .int u, .int v, .int z, .int n]
  | .pay p q n => [.int p, .int q, .int n]
def faD (f : Fa) : D := .tup (txD (faW f) :: faDs f)
/-- sound for a district -/
def okFa (w t d : Int) : Fa → Prop
  | .vein ss cs => (ss.length : Int) = d ∧ (∀ s ∈ ss, 0 ≤ s ∧ s ≤ 4) ∧ 1 ≤ cs.length ∧ cs.length ≤ 16 ∧ cs.Nodup ∧ ∀ c ∈ cs, (0 ≤ c.1 ∧ c.1 < w) ∧ 0 ≤ c.2 ∧ c.2 < t
  | .join a b f => (1 ≤ a ∧ a ≤ 400) ∧ (1 ≤ b ∧ b ≤ 400) ∧ 1 ≤ f ∧ f ≤ d
  | .stake p x y u v => (1 ≤ p ∧ p ≤ 40) ∧ (0 ≤ x ∧ x ≤ u ∧ u < w) ∧ 0 ≤ y ∧ y ≤ v ∧ v < t
  | .work c => 1 ≤ c ∧ c ≤ 400
  | .sell c p => (1 ≤ c ∧ c ≤ 400) ∧ 1 ≤ p ∧ p ≤ 40
  | .part c s l p => (1 ≤ c ∧ c ≤ 400) ∧ (0 ≤ s ∧ s ≤ 1) ∧ (1 ≤ l ∧ l ≤ 23) ∧ 1 ≤ p ∧ p ≤ 40
  | .give c => 1 ≤ c ∧ c ≤ 400
  | .dig p x y u v z n => (1 ≤ p ∧ p ≤ 40) ∧ (0 ≤ x ∧ x < w) ∧ (0 ≤ y ∧ y < t) ∧ (0 ≤ u ∧ u < w) ∧ (0 ≤ v ∧ v < t) ∧ (0 ≤ z ∧ z ≤ d) ∧ 1 ≤ n ∧ n ≤ 1000000
  | .pay p q n => (1 ≤ p ∧ p ≤ 40) ∧ (1 ≤ q ∧ q ≤ 40) ∧ p ≠ q ∧ 1 ≤ n ∧ n ≤ 1000000
theorem dps_ints (l : List Int) : dps (l.map D.int) ≤ 0 := dps_map fun _ _ => Nat.le_refl _
/-- a script as it comes -/
def Scr (ns : List Int) (sc : D) : Prop := ns.length ≤ 63 ∧ (sc = .lst (ns.map .int) ∨ sc = .lsk (ns.map .int))
def dCell (ns : List Int) (k : Int) : Int := if ns = [] then 0 else (ns[(k % ns.length).toNat]?).getD 0
def dTurn (ns : List Int) (k : Int) : Int := if ns = [] then 1 else k / ns.length
def dRest (c : Int) (j : Int) : Int := (List.range j.toNat).foldl (fun r _ => r / 10000000000) c
def dOne (c k j : Int) : Int := (c * 7919 + k * 104729 + j * 1299709 + 31) % 1000000007
def dTwo (c k j : Int) : Int := ((dOne c k j * 48271 + c / 1009) % 998244353 * (dOne c k j % 9973 + 1) + j) % 1000000009
def draw (ns : List Int) (k j m : Int) : Int :=
  if (dTurn ns k = 0 ∧ 1000000000000000000 ≤ dCell ns k) ∧ 0 < dRest (dCell ns k) j then dRest (dCell ns k) j % 10000000000 % m
  else (dOne (dCell ns k) k j * 69621 + dTwo (dCell ns k) k j * 40692 + dTwo (dCell ns k) k j / 1013) % 2147483647 % m
theorem draw_lo (ns : List Int) (k j : Int) {m : Int} (h : 0 < m) : 0 ≤ draw ns k j m := by
  unfold draw
  split <;> exact Int.emod_nonneg _ (by omega)
theorem draw_hi (ns : List Int) (k j : Int) {m : Int} (h : 0 < m) : draw ns k j m < m := by
  unfold draw
  split <;> exact Int.emod_lt_of_pos _ h
theorem atI_map {ns : List Int} {k : Int} (h : ns ≠ []) : L2.atI (ns.map D.int) (k % (ns.length : Int)) = some (.int (dCell ns k)) := by
  have h1 : 0 < ns.length := List.length_pos_iff.mpr h
  have h2 := Int.emod_nonneg k (b := (ns.length : Int)) (by omega)
  have h3 := Int.emod_lt_of_pos k (b := (ns.length : Int)) (by omega)
  unfold L2.atI L2.ixN dCell
  rw [List.length_map, if_pos h2, if_pos h3, if_neg h]
  show (ns.map D.int)[(k % (ns.length : Int)).toNat]? = _
  rw [List.getElem?_map, List.getElem?_eq_getElem (by omega)]
  rfl
theorem s_law_draw (n : Nat) (S : Sto) {ns : List Int} {sc : D} (hs : Scr ns sc) (k j m : Int) (hm : 0 < m) (hj : 0 ≤ j) (hj2 : j < 1000) : callF TAB (n + 1) k_law_draw [sc, .int k, .int j, .int m] S = .ok (.v (.int (draw ns k j m))) S := by
  obtain ⟨hn, hs⟩ := hs
  have hlen : ∀ S, biR .len S [.v sc] = some (.v (.int ns.length)) := by
    rcases hs with rfl | rfl <;> intro S
    · rw [len_lst, List.length_map]
    · rw [len_lsk, List.length_map]
  have hix : ∀ S i, ixR S (.v sc) (.v (.int i)) = (L2.atI (ns.map D.int) i).map .v := by
    rcases hs with rfl | rfl <;> intro S i
    · rw [ix_lst]
    · rw [ix_lsk]
  -- the loop
  have loop : ∀ (t : Int) (a b c d sl : Sl), ∃ sl', forL [] (bodyF TAB (callF TAB n) (G.name 7) b_law_draw_1) (rangeD 0 j) [.v sc, .v (.int k), .v (.int j), .v (.int m), a, b, .v (.int t), sl, c, d] S =
      .ok (.next [.v sc, .v (.int k), .v (.int j), .v (.int m), a, b, .v (.int (dRest t j)), sl', c, d]) S := by
    intro t a b c d sl
    obtain ⟨j', h, _⟩ := for_acc (S := S) (f := bodyF TAB (callF TAB n) (G.name 7) b_law_draw_1) (fun (k : Nat) => D.int (0 + (k : Int))) (fun r _ => r / 10000000000)
      (fun (u : Int) (sl : Sl) => [.v sc, .v (.int k), .v (.int j), .v (.int m), a, b, .v (.int u), sl, c, d]) (fun _ => True) (List.range (j - 0).toNat)
      (fun u x sl _ _ => ⟨⟨.v (.int (0 + (x : Int))), .inl (by rw [bodyF_eq]; simp? only [b_law_draw_1])⟩, trivial⟩) t sl trivial
    exact ⟨j', by rw [rangeD_map, h, Int.sub_zero]; rfl⟩
  rw [call_eq t_law_draw rfl]
  have j1 : (-4611686018427387904 ≤ j) = True := eq_true (by omega)
  have j2 : (j < 4611686018427387904) = True := eq_true (by omega)
  have hn2 : (ns.length < 18446744073709551616) = True := eq_true (by omega)
  by_cases h0 : ns = []
  · subst h0
    obtain ⟨sl', hl⟩ := loop 0 (.v (.int 0)) (.v (.int 1)) .un .un .un
    simp? only [d_law_draw, hlen, hix, j1, j2, hl, hm]
    simp [draw, dTurn, dOne, dTwo, dCell]
  · have h1 : (0 : Int) < ns.length := by have := List.length_pos_iff.mpr h0; omega
    obtain ⟨sl', hl⟩ := loop (dCell ns k) (.v (.int (dCell ns k))) (.v (.int (k / ns.length))) .un .un .un
    simp? only [d_law_draw, hlen, hix, h1, atI_map h0, hn2, j1, j2, hl, hm]
    simp only [draw, dTurn, if_neg h0, dOne, dTwo, and_assoc]
    split <;> rfl

theorem pick_int {is : List Int} {i : Int} (h0 : 0 ≤ i) (h1 : i < is.length) : ∃ m ∈ is, L2.atI (is.map D.int) i = some (.int m) := by
  obtain ⟨k, rfl⟩ : ∃ k : Nat, i = (k : Int) := ⟨i.toNat, by omega⟩
  have hk : k < is.length := by omega
  refine ⟨is[k], List.getElem_mem hk, ?_⟩
  rw [atI_cast, List.getElem?_map, List.getElem?_eq_getElem hk]
  rfl
theorem pick_w {ws : List (List Nat)} {i : Int} (h0 : 0 ≤ i) (h1 : i < ws.length) : ∃ m ∈ ws, L2.atI (ws.map txD) i = some (txD m) := by
  obtain ⟨k, rfl⟩ : ∃ k : Nat, i = (k : Int) := ⟨i.toNat, by omega⟩
  have hk : k < ws.length := by omega
  refine ⟨ws[k], List.getElem_mem hk, ?_⟩
  rw [atI_cast, List.getElem?_map, List.getElem?_eq_getElem hk]
  rfl

theorem s_law_who {ns : List Int} {sc : D} (hs : Scr ns sc) (k j : Int) (hj : 0 ≤ j) (hj2 : j < 900) : ∃ p : Int, (1 ≤ p ∧ p ≤ 40) ∧ ∀ (n : Nat) (S : Sto), callF TAB (n + 2) k_law_who [sc, .int k, .int j] S = .ok (.v (.int p)) S := by
  obtain ⟨m, hm, em⟩ := pick_int (is := [40, 4, 4, 4, 4, 4]) (draw_lo ns k (j + 1) (m := 6) (by omega)) (draw_hi ns k (j + 1) (m := 6) (by omega))
  have hm2 : 0 < m ∧ m ≤ 40 := by
    simp only [List.mem_cons, List.not_mem_nil, or_false] at hm
    omega
  have a0 := draw_lo ns k j hm2.1
  have a1 := draw_hi ns k j hm2.1
  refine ⟨1 + draw ns k j m, by omega, fun n S => ?_⟩
  have c1 := s_law_draw n S hs k (j + 1) 6 (by omega) (by omega) (by omega)
  have c2 := s_law_draw n S hs k j m hm2.1 hj (by omega)
  simp only [List.map_cons, List.map_nil] at em
  rw [call_eq t_law_who rfl]
  dsimp? only [d_law_who, c1, em, c2]
theorem s_law_pick {ns : List Int} {sc : D} (hs : Scr ns sc) (k j : Int) (hj : 0 ≤ j) (hj2 : j < 900) (is : List Int) (hi : ∀ i ∈ is, 1 ≤ i ∧ i ≤ 400) (hl : is.length ≤ 1000) : ∃ p : Int, (1 ≤ p ∧ p ≤ 400) ∧ ∀ (n : Nat) (S : Sto), callF TAB (n + 2) k_law_pick [sc, .int k, .int j, .lst (is.map .int)] S = .ok (.v (.int p)) S := by
  have a0 := draw_lo ns k (j + 1) (m := 400) (by omega)
  have a1 := draw_hi ns k (j + 1) (m := 400) (by omega)
  by_cases h : is = []
  · subst h
    refine ⟨1 + draw ns k (j + 1) 400, by omega, fun n S => ?_⟩
    have c1 := s_law_draw n S hs k (j + 1) 400 (by omega) (by omega) (by omega)
    rw [call_eq t_law_pick rfl]
    dsimp? only [d_law_pick, c1]
  · have hp : 0 < (is.length : Int) := by
      have := List.length_pos_iff.mpr h
      omega
    have hz : ¬ (is.length : Int) = 0 := by omega
    by_cases h14 : draw ns k j 14 = 0
    · refine ⟨1 + draw ns k (j + 1) 400, by omega, fun n S => ?_⟩
      have c0 := s_law_draw n S hs k j 14 (by omega) (by omega) (by omega)
      have c1 := s_law_draw n S hs k (j + 1) 400 (by omega) (by omega) (by omega)
      rw [call_eq t_law_pick rfl]
      dsimp? only [d_law_pick, c0, c1, h14, hz, List.length_map]
    · obtain ⟨m, hm, em⟩ := pick_int (is := is) (draw_lo ns k (j + 1) hp) (draw_hi ns k (j + 1) hp)
      refine ⟨m, hi m hm, fun n S => ?_⟩
      have c0 := s_law_draw n S hs k j 14 (by omega) (by omega) (by omega)
      have c1 := s_law_draw n S hs k (j + 1) is.length hp (by omega) (by omega)
      rw [call_eq t_law_pick rfl]
      dsimp? only [d_law_pick, c0, c1, h14, hz, List.length_map, em]
theorem s_law_steps {ns : List Int} {sc : D} (hs : Scr ns sc) (k j d : Int) (hj : 0 ≤ j) (hj2 : j < 800) (hd : 0 ≤ d) (hd2 : d ≤ 100) : ∃ ss : List Int, (ss.length : Int) = d ∧ (∀ s ∈ ss, 0 ≤ s ∧ s ≤ 4) ∧ ∀ (n : Nat) (S : Sto), callF TAB (n + 2) k_law_steps [sc, .int k, .int j, .int d] S = .ok (.v (.tup (ss.map .int))) S := by
  obtain ⟨e, rfl⟩ : ∃ e : Nat, d = (e : Int) := ⟨d.toNat, by omega⟩
  have h7 : ∀ i : Int, ∃ m ∈ [(0 : Int), 1, 2, 3, 4, 0, 0], L2.atI ([(0 : Int), 1, 2, 3, 4, 0, 0].map D.int) (draw ns k (j + i) 7) = some (.int m) := fun i => pick_int (draw_lo ns k (j + i) (m := 7) (by omega)) (draw_hi ns k (j + i) (m := 7) (by omega))
  let g : Nat → Int := fun i => Classical.choose (h7 (i : Int))
  have hg : ∀ i : Nat, g i ∈ [(0 : Int), 1, 2, 3, 4, 0, 0] ∧ L2.atI ([(0 : Int), 1, 2, 3, 4, 0, 0].map D.int) (draw ns k (j + (i : Int)) 7) = some (.int (g i)) := fun i => Classical.choose_spec (h7 (i : Int))
  refine ⟨(List.range e).map g, by rw [List.length_map, List.length_range], fun s h => ?_, fun n S => ?_⟩
  · obtain ⟨i, _, rfl⟩ := List.mem_map.mp h
    have := (hg i).1
    simp only [List.mem_cons, List.not_mem_nil, or_false] at this
    omega
  · have lc : lcL [] (fLc TAB (callF TAB (n + 1)) [4] (G.name 4) u_law_steps_1 [.v sc, .v (.int k), .v (.int j), .v (.int e), .un]) (rangeD 0 (e : Int)) [] S = .ok (((List.range e).map g).map D.int) S := by
      rw [rangeD0, List.map_map]
      refine lc_all (fun (i : Nat) => D.int (i : Int)) _ (List.range e) (fun i hi => ?_) (by have := PySem.sizeLine_eq; rw [List.length_range]; omega)
      have hi' := List.mem_range.mp hi
      have c1 := s_law_draw n S hs k (j + (i : Int)) 7 (by omega) (by omega) (by omega)
      have em := (hg i).2
      simp only [List.map_cons, List.map_nil] at em
      rw [fLc_eq]
      dsimp? only [u_law_steps_1, c1, em]
      rfl
    rw [call_eq t_law_steps rfl]
    dsimp? only [d_law_steps, lc]

def outC (w f s c : Int) (at_ : Nat) : Int × Int := (((f + (at_ : Int) * s) % c) % w, ((f + (at_ : Int) * s) % c) / w)
def outStep (w f s c : Int) (cs : List (Int × Int)) (at_ : Nat) : List (Int × Int) := if outC w f s c at_ ∈ cs then cs else cs ++ [outC w f s c at_]
theorem outC_in {w t f s : Int} (hw : 0 < w) (ht : 0 < t) (at_ : Nat) : (0 ≤ (outC w f s (w * t) at_).1 ∧ (outC w f s (w * t) at_).1 < w) ∧ 0 ≤ (outC w f s (w * t) at_).2 ∧ (outC w f s (w * t) at_).2 < t := by
  have hc : 0 < w * t := Int.mul_pos hw ht
  have h1 := Int.emod_nonneg (f + (at_ : Int) * s) (Int.ne_of_gt hc)
  have h2 := Int.emod_lt_of_pos (f + (at_ : Int) * s) hc
  unfold outC
  generalize (f + (at_ : Int) * s) % (w * t) = p at *
  refine ⟨⟨Int.emod_nonneg _ (by omega), Int.emod_lt_of_pos _ hw⟩, Int.ediv_nonneg h1 (by omega), Int.ediv_lt_of_lt_mul hw (by rw [Int.mul_comm]; exact h2)⟩
theorem outs_fold {w t f s : Int} (hw : 0 < w) (ht : 0 < t) (xs : List Nat) : ∀ cs : List (Int × Int), (cs.Nodup ∧ ∀ c ∈ cs, (0 ≤ c.1 ∧ c.1 < w) ∧ 0 ≤ c.2 ∧ c.2 < t) →
    ((xs.foldl (outStep w f s (w * t)) cs).Nodup ∧ ∀ c ∈ xs.foldl (outStep w f s (w * t)) cs, (0 ≤ c.1 ∧ c.1 < w) ∧ 0 ≤ c.2 ∧ c.2 < t) ∧ (xs.foldl (outStep w f s (w * t)) cs).length ≤ cs.length + xs.length ∧ cs.length ≤ (xs.foldl (outStep w f s (w * t)) cs).length := by
  induction xs with
  | nil => exact fun cs h => ⟨h, Nat.le_refl _, Nat.le_refl _⟩
  | cons x xs ih =>
    intro cs h
    rw [List.foldl_cons]
    by_cases hm : outC w f s (w * t) x ∈ cs
    · have e : outStep w f s (w * t) cs x = cs := if_pos hm
      rw [e]
      obtain ⟨h1, h2, h3⟩ := ih cs h
      exact ⟨h1, by rw [List.length_cons]; omega, h3⟩
    · have e : outStep w f s (w * t) cs x = cs ++ [outC w f s (w * t) x] := if_neg hm
      rw [e]
      obtain ⟨h1, h2, h3⟩ := ih (cs ++ [outC w f s (w * t) x]) ⟨by
        rw [List.nodup_append]
        refine ⟨h.1, by simp, fun a ha b hb => ?_⟩
        rw [List.mem_singleton] at hb
        subst hb
        exact fun e => hm (e ▸ ha), fun c hc => (List.mem_append.mp hc).elim (h.2 c) fun e => by
          rw [List.mem_singleton] at e
          subst e
          exact outC_in hw ht x⟩
      rw [List.length_append, List.length_singleton] at h2 h3
      exact ⟨h1, by rw [List.length_cons]; omega, by omega⟩
theorem in_own {S : Sto} (x y : Int) (cs : List (Int × Int)) (hl : cs.length ≤ 1000) (r : R) (hr : sqOf S r = some (cs.map pD)) (hn : ∀ z, r ≠ .v (.str z)) : inR S (.v (.tup [.int x, .int y])) r = some (decide ((x, y) ∈ cs)) := by
  rw [inR_gd (ds := cs.map pD) hn hr (by simp [gd, gds]) (gd_pairs cs) (by simp [dp, dps]) (Nat.lt_of_le_of_lt (dp_pairs cs) (by decide))]
  exact congrArg some (decide_eq_decide.mpr (mem_pairs x y cs))
theorem outs_loop (rc : Nat → List D → Sto → O R) (S : Sto) (s0 s1 s2 : Sl) (w t d f s : Int) (hw : 0 < w) (hw2 : w ≤ 1000) (ht : 0 < t) (ht2 : t ≤ 1000) (hs : 0 ≤ s ∧ s ≤ 1000000) : ∀ (xs : List Nat) (cs : List (Int × Int)) (a b : Sl), cs.length + xs.length ≤ 100 → (∀ x ∈ xs, x ≤ 1000) →
    ∃ a' b', forL [] (bodyF TAB rc (G.name 8) b_law_outs_1) (xs.map fun (k : Nat) => D.int (k : Int)) [s0, s1, s2, .v (szD w t d), .v (.int (w * t)), .v (.int f), .v (.int s), .own (cs.map pD), a, b] S = .ok (.next [s0, s1, s2, .v (szD w t d), .v (.int (w * t)), .v (.int f), .v (.int s), .own ((xs.foldl (outStep w f s (w * t)) cs).map pD), a', b']) S
  | [], cs, a, b, _, _ => ⟨a, b, forL_nil⟩
  | x :: xs, cs, a, b, hl, hx => by
    rw [List.length_cons] at hl
    have hc : 0 < w * t := Int.mul_pos hw ht
    have hx1 := hx x (by simp)
    have hsx : (-18446744073709551616 : Int) < s ∧ s < 18446744073709551616 := by omega
    have i1 := in_own (S := S) (((f + (x : Int) * s) % (w * t)) % w) (((f + (x : Int) * s) % (w * t)) / w) cs (by omega) (.v (.lst (cs.map pD))) rfl (fun z h => by cases h)
    have hwn : w.natAbs.log2 < 9000 := by
      have : w.natAbs.log2 ≤ w.natAbs := Nat.log2_le_self _
      omega
    have st : ∃ a' b', bodyF TAB rc (G.name 8) b_law_outs_1 (.int (x : Int)) [s0, s1, s2, .v (szD w t d), .v (.int (w * t)), .v (.int f), .v (.int s), .own (cs.map pD), a, b] S = .ok (.next [s0, s1, s2, .v (szD w t d), .v (.int (w * t)), .v (.int f), .v (.int s), .own ((outStep w f s (w * t) cs x).map pD), a', b']) S := by
      refine ⟨.v (.int (x : Int)), .v (.int ((f + (x : Int) * s) % (w * t))), ?_⟩
      rw [bodyF_eq]
      unfold szD
      by_cases hm : outC w f s (w * t) x ∈ cs
      · have e : outStep w f s (w * t) cs x = cs := if_pos hm
        have hm' : (((f + (x : Int) * s) % (w * t)) % w, ((f + (x : Int) * s) % (w * t)) / w) ∈ cs := hm
        rw [e]
        rw [decide_eq_true hm'] at i1
        dsimp? only [b_law_outs_1, i1, hwn]
        done
      · have e : outStep w f s (w * t) cs x = cs ++ [outC w f s (w * t) x] := if_neg hm
        have hm' : ¬ (((f + (x : Int) * s) % (w * t)) % w, ((f + (x : Int) * s) % (w * t)) / w) ∈ cs := hm
        rw [e, List.map_append]
        rw [decide_eq_false hm'] at i1
        dsimp? only [b_law_outs_1, i1, hwn, outC, pD]
        done
    obtain ⟨a1, b1, h1⟩ := st
    have hln : (outStep w f s (w * t) cs x).length ≤ cs.length + 1 := by
      unfold outStep
      split
      · omega
      · rw [List.length_append]
        exact Nat.le_refl _
    obtain ⟨a2, b2, h2⟩ := outs_loop rc S s0 s1 s2 w t d f s hw hw2 ht ht2 hs xs (outStep w f s (w * t) cs x) a1 b1 (by omega) (fun y hy => hx y (by simp [hy]))
    exact ⟨a2, b2, by rw [List.map_cons, forL_go (.inl h1), List.foldl_cons]; exact h2⟩
theorem s_law_outs {ns : List Int} {sc : D} (hs : Scr ns sc) (k j w t d : Int) (hj : 0 ≤ j) (hj2 : j < 900) (hw : 0 < w) (hw2 : w ≤ 1000) (ht : 0 < t) (ht2 : t ≤ 1000) : ∃ cs : List (Int × Int), 1 ≤ cs.length ∧ cs.length ≤ 16 ∧ cs.Nodup ∧ (∀ c ∈ cs, (0 ≤ c.1 ∧ c.1 < w) ∧ 0 ≤ c.2 ∧ c.2 < t) ∧ ∀ (n : Nat) (S : Sto), callF TAB (n + 2) k_law_outs [sc, .int k, .int j, szD w t d] S = .ok (.v (.tup (cs.map pD))) S := by
  have hc : 0 < w * t := Int.mul_pos hw ht
  have hc2 : w * t ≤ 1000000 := by
    have := Int.mul_le_mul hw2 ht2 (by omega) (by omega : (0 : Int) ≤ 1000)
    omega
  obtain ⟨m, hm, em⟩ := pick_int (is := [16, 4, 4, 4]) (draw_lo ns k (j + 2) (m := 4) (by omega)) (draw_hi ns k (j + 2) (m := 4) (by omega))
  have hm2 : 0 < m ∧ m ≤ 16 := by
    simp only [List.mem_cons, List.not_mem_nil, or_false] at hm
    omega
  have a0 := draw_lo ns k (j + 3) hm2.1
  have a1 := draw_hi ns k (j + 3) hm2.1
  have b0 := draw_lo ns k (j + 1) hc
  have b1 := draw_hi ns k (j + 1) hc
  obtain ⟨q, hq⟩ : ∃ q : Nat, 1 + draw ns k (j + 3) m = (q : Int) := ⟨(1 + draw ns k (j + 3) m).toNat, by omega⟩
  obtain ⟨⟨h1, h2⟩, h3, h4⟩ := outs_fold (f := draw ns k j (w * t)) (s := 1 + draw ns k (j + 1) (w * t)) hw ht (List.range q) [] ⟨by simp, by simp⟩
  rw [List.length_nil, List.length_range] at h3
  refine ⟨_, ?_, by omega, h1, h2, fun n S => ?_⟩
  · obtain ⟨q', rfl⟩ : ∃ q' : Nat, q = q' + 1 := ⟨q - 1, by omega⟩
    rw [List.range_succ_eq_map, List.foldl_cons]
    have := (outs_fold (f := draw ns k j (w * t)) (s := 1 + draw ns k (j + 1) (w * t)) hw ht ((List.range q').map Nat.succ) (outStep w (draw ns k j (w * t)) (1 + draw ns k (j + 1) (w * t)) (w * t) [] 0) (by
      rw [show outStep w (draw ns k j (w * t)) (1 + draw ns k (j + 1) (w * t)) (w * t) [] 0 = [outC w (draw ns k j (w * t)) (1 + draw ns k (j + 1) (w * t)) (w * t) 0] from if_neg (by simp)]
      exact ⟨by simp, fun c hc => by
        rw [List.mem_singleton] at hc
        subst hc
        exact outC_in hw ht 0⟩)).2.2
    rw [show outStep w (draw ns k j (w * t)) (1 + draw ns k (j + 1) (w * t)) (w * t) [] 0 = [outC w (draw ns k j (w * t)) (1 + draw ns k (j + 1) (w * t)) (w * t) 0] from if_neg (by simp)] at this ⊢
    exact this
  · have c1 := s_law_draw n S hs k j (w * t) hc hj (by omega)
    have c2 := s_law_draw n S hs k (j + 1) (w * t) hc (by omega) (by omega)
    have c3 := s_law_draw n S hs k (j + 2) 4 (by omega) (by omega) (by omega)
    have c4 := s_law_draw n S hs k (j + 3) m hm2.1 (by omega) (by omega)
    obtain ⟨a', b', lp⟩ := outs_loop (callF TAB (n + 1)) S (.v sc) (.v (.int k)) (.v (.int j)) w t d (draw ns k j (w * t)) (1 + draw ns k (j + 1) (w * t)) hw hw2 ht ht2 ⟨by omega, by omega⟩ (List.range q) [] .un .un (by rw [List.length_nil, List.length_range]; omega) (fun x hx => by
      have := List.mem_range.mp hx
      omega)
    rw [← rangeD0, List.map_nil] at lp
    have hwt : (-18446744073709551616 : Int) < w ∧ w < 18446744073709551616 := by omega
    simp only [List.map_cons, List.map_nil] at em
    rw [call_eq t_law_outs rfl]
    unfold szD at *
    dsimp? only [d_law_outs, c1, c2, c3, em, c4, hq, lp]
    done
theorem s_law_vein {ns : List Int} {sc : D} (hs : Scr ns sc) (k w t d : Int) (hw : 0 < w) (hw2 : w ≤ 1000) (ht : 0 < t) (ht2 : t ≤ 1000) (hd : 0 ≤ d) (hd2 : d ≤ 100) : ∃ ss cs, okFa w t d (.vein ss cs) ∧ ∀ (n : Nat) (S : Sto), callF TAB (n + 3) k_law_vein [sc, .int k, szD w t d] S = .ok (.v (faD (.vein ss cs))) S := by
  obtain ⟨ss, h1, h2, h3⟩ := s_law_steps hs k 8 d (by omega) (by omega) hd hd2
  obtain ⟨cs, g1, g2, g3, g4, g5⟩ := s_law_outs hs k 1 w t d (by omega) (by omega) hw hw2 ht ht2
  refine ⟨ss, cs, ⟨h1, h2, g1, g2, g3, g4⟩, fun n S => ?_⟩
  have e1 := h3 n S
  have e2 := g5 n S
  rw [call_eq t_law_vein rfl]
  unfold szD at *
  dsimp? only [d_law_vein, e1, e2]
  rfl

theorem sort2 (a b : Int) : sortI [a, b] = [min a b, max a b] := by
  unfold sortI
  by_cases h : a ≤ b
  · rw [Int.min_eq_left h, Int.max_eq_right h]
    simp [List.mergeSort, List.MergeSort.Internal.splitInTwo, List.merge, h]
  · have h' : b ≤ a := by omega
    rw [Int.min_eq_right h', Int.max_eq_left h']
    simp [List.mergeSort, List.MergeSort.Internal.splitInTwo, List.merge, h]
theorem sorted2 {S : Sto} (a b : Int) : biR .sorted S [.l [.int a, .int b]] = some (.l [.int (min a b), .int (max a b)]) := by
  show ((sortD [.int a, .int b]).map R.l) = _
  show (some (R.l ((sortI [a, b]).map D.int))) = _
  rw [sort2]
  rfl
def rectD (ns : List Int) (k j w t : Int) : D := .tup [.int (min (draw ns k j w) (draw ns k (j + 1) w)), .int (min (draw ns k (j + 2) t) (draw ns k (j + 3) t)), .int (max (draw ns k j w) (draw ns k (j + 1) w)), .int (max (draw ns k (j + 2) t) (draw ns k (j + 3) t))]
theorem s_law_rect (n : Nat) (S : Sto) {ns : List Int} {sc : D} (hs : Scr ns sc) (k j w t : Int) (hw : 0 < w) (ht : 0 < t) (hj : 0 ≤ j) (hj2 : j < 990) : callF TAB (n + 2) k_law_rect [sc, .int k, .int j, .int w, .int t] S = .ok (.v (rectD ns k j w t)) S := by
  have d := s_law_draw n S hs k
  rw [call_eq t_law_rect rfl]
  simp? only [d_law_rect, d j w hw hj (by omega), d (j + 1) w hw (by omega) (by omega), d (j + 2) t ht (by omega) (by omega), d (j + 3) t ht (by omega) (by omega), sorted2]
  rfl
theorem rectD_eq (ns : List Int) (k j w t : Int) (hw : 0 < w) (ht : 0 < t) : ∃ a b c d : Int, rectD ns k j w t = .tup [.int a, .int b, .int c, .int d] ∧ 0 ≤ a ∧ a ≤ c ∧ c < w ∧ 0 ≤ b ∧ b ≤ d ∧ d < t := by
  have l := fun j => draw_lo ns k j hw
  have u := fun j => draw_hi ns k j hw
  have l2 := fun j => draw_lo ns k j ht
  have u2 := fun j => draw_hi ns k j ht
  refine ⟨_, _, _, _, rfl, ?_⟩
  have := l j; have := l (j + 1); have := u j; have := u (j + 1)
  have := l2 (j + 2); have := l2 (j + 3); have := u2 (j + 2); have := u2 (j + 3)
  omega

abbrev Pln := List (Int × List Nat × List D)
def plD (p : Int × List Nat × List D) : D := .tup [.int p.1, .tup (txD p.2.1 :: p.2.2)]
def okPln (pl : Pln) : Prop := pl.length ≤ 1000 ∧ ∀ p ∈ pl, (1 ≤ p.1 ∧ p.1 ≤ 400) ∧ okT p.2.1 = true ∧ p.2.1.length ≤ 100
theorem s_law_claim_factP {ns : List Int} {sc : D} (hs : Scr ns sc) (k way w t d : Int) (hw : 0 < w) (ht : 0 < t) (h0 : 0 ≤ way) (h1 : way < 8) (is : List Int) (hi : ∀ i ∈ is, 1 ≤ i ∧ i ≤ 400) (hl : is.length ≤ 1000) : ∃ f : Fa, (okFa w t d f ∧ (faW f ≠ f_dig ∧ faW f ≠ f_pay)) ∧ ∀ (n : Nat) (S : Sto), callF TAB (n + 3) k_law_claim_fact [sc, .int k, .int way, szD w t d, .lst (is.map .int)] S = .ok (.v (faD f)) S := by
  obtain ⟨c, hc, f1⟩ := s_law_pick hs k 1 (by omega) (by omega) is hi hl
  obtain ⟨p, hp, f2⟩ := s_law_who hs k 3 (by omega) (by omega)
  have l5 := draw_lo ns k 5 (m := 2) (by omega)
  have u5 := draw_hi ns k 5 (m := 2) (by omega)
  obtain ⟨z, hz, ez⟩ : ∃ z : Int, 0 < z ∧ L2.atI [D.int w, .int t, .int d] (draw ns k 5 2) = some (.int z) := by
    rcases (show draw ns k 5 2 = 0 ∨ draw ns k 5 2 = 1 by omega) with e | e <;> rw [e]
    · exact ⟨w, hw, rfl⟩
    · exact ⟨t, ht, rfl⟩
  have hm : 0 < min 23 z := by omega
  have l6 := draw_lo ns k 6 hm
  have u6 := draw_hi ns k 6 hm
  have ln : 1 ≤ 1 + draw ns k 6 (min 23 z) ∧ 1 + draw ns k 6 (min 23 z) ≤ 23 := by omega
  have st : ∀ (n : Nat) (S : Sto), callF TAB (n + 1) k_law_draw [sc, .int k, .int 5, .int 2] S = .ok (.v (.int (draw ns k 5 2))) S ∧ callF TAB (n + 1) k_law_draw [sc, .int k, .int 6, .int (min 23 z)] S = .ok (.v (.int (draw ns k 6 (min 23 z)))) S := fun n S => ⟨s_law_draw n S hs k 5 2 (by omega) (by omega) (by omega), s_law_draw n S hs k 6 (min 23 z) hm (by omega) (by omega)⟩
  have mn : ∀ S : Sto, biR .min2 S [.v (.int 23), .v (.int z)] = some (.v (.int (min 23 z))) := fun S => by
    show some (R.v (.int (if z < 23 then z else 23))) = _
    rw [Int.min_def]
    split <;> split <;> first | rfl | (congr 3; omega)
  generalize hu : (1 + draw ns k 6 (min 23 z)) = u at *
  by_cases hw3 : way < 3
  · refine ⟨.work c, ⟨hc, (by decide : f_work ≠ f_dig ∧ f_work ≠ f_pay)⟩, fun n S => ?_⟩
    obtain ⟨c5, c6⟩ := st (n + 1) S
    have e1 := f1 n S
    have e2 := f2 n S
    rw [call_eq t_law_claim_fact rfl]
    unfold szD
    dsimp? only [d_law_claim_fact, e1, e2, c5, c6, ez, mn, hw3]
    rfl
  · rcases (show way / 2 - 1 = 0 ∨ way / 2 - 1 = 1 ∨ way / 2 - 1 = 2 by omega) with e | e | e
    · refine ⟨.sell c p, ⟨⟨hc, hp⟩, (by decide : f_sell ≠ f_dig ∧ f_sell ≠ f_pay)⟩, fun n S => ?_⟩
      obtain ⟨c5, c6⟩ := st (n + 1) S
      have e1 := f1 n S
      have e2 := f2 n S
      rw [call_eq t_law_claim_fact rfl]
      unfold szD
      dsimp? only [d_law_claim_fact, e1, e2, c5, c6, ez, mn, hw3, e, hu]
      rfl
    · refine ⟨.part c (draw ns k 5 2) u p, ⟨⟨hc, by omega, ln, hp⟩, (by decide : f_part ≠ f_dig ∧ f_part ≠ f_pay)⟩, fun n S => ?_⟩
      obtain ⟨c5, c6⟩ := st (n + 1) S
      have e1 := f1 n S
      have e2 := f2 n S
      rw [call_eq t_law_claim_fact rfl]
      unfold szD
      dsimp? only [d_law_claim_fact, e1, e2, c5, c6, ez, mn, hw3, e, hu]
      rfl
    · refine ⟨.give c, ⟨hc, (by decide : f_give ≠ f_dig ∧ f_give ≠ f_pay)⟩, fun n S => ?_⟩
      obtain ⟨c5, c6⟩ := st (n + 1) S
      have e1 := f1 n S
      have e2 := f2 n S
      rw [call_eq t_law_claim_fact rfl]
      unfold szD
      dsimp? only [d_law_claim_fact, e1, e2, c5, c6, ez, mn, hw3, e, hu]
      rfl
def isVein (p : Int × List Nat × List D) : Bool := decide (p.2.1 = f_vein)
def isName (p : Int × List Nat × List D) : Bool := decide (p.2.1 = f_stake ∨ p.2.1 = f_part)
theorem in_tt {S : Sto} {w a b : List Nat} (h : okT w = true) (ha : okT a = true) (hb : okT b = true) : inR S (.v (txD w)) (.v (.tup [txD a, txD b])) = some (decide (w = a ∨ w = b)) := by
  rw [inR_gd (ds := [txD a, txD b]) (fun z h => by cases h) rfl (gd_t h) (gds_c (gd_t ha) (gds_c (gd_t hb) gds_n)) (by simp [dp]) (by simp [dps, dp])]
  refine congrArg some (decide_eq_decide.mpr ?_)
  simp only [List.mem_cons, List.not_mem_nil, or_false, D.str.injEq, txS_eq]
theorem fact_lc1 (rc : Nat → List D → Sto → O R) (S : Sto) (s0 s1 s2 s3 s4 s5 s6 s7 s8 s9 : Sl) (pl : Pln) (hp : okPln pl) : lcL [] (fLcI TAB rc [6, 7] (G.tup [6, 7]) v_law_fact_1 u_law_fact_2 [s0, s1, s2, s3, s4, s5, s6, s7, s8, s9]) (pl.map plD) [] S = .ok ((pl.filter isVein).map fun p => D.int p.1) S := by
  rw [lc_map plD isVein (fun p => D.int p.1) pl [] (fun p hp' => ?_) (by have := PySem.sizeLine_eq; have := hp.1; rw [List.length_nil]; omega), List.nil_append]
  obtain ⟨_, hw, hwl⟩ := hp.2 p hp'
  rw [fLcI_eq]
  unfold plD isVein
  by_cases h : p.2.1 = f_vein
  · have h' : p.2.1 = [118, 101, 105, 110] := h
    rw [if_pos (decide_eq_true h)]
    dsimp? only [v_law_fact_1, u_law_fact_2, h']
  · have h' : ¬ p.2.1 = [118, 101, 105, 110] := h
    rw [if_neg (by rw [decide_eq_false h]; decide)]
    dsimp? only [v_law_fact_1, u_law_fact_2, h']
theorem fact_lc2 (rc : Nat → List D → Sto → O R) (S : Sto) (s0 s1 s2 s3 s4 s5 s6 s7 s8 s9 : Sl) (pl : Pln) (hp : okPln pl) : lcL [] (fLcI TAB rc [6, 7] (G.tup [6, 7]) v_law_fact_3 u_law_fact_4 [s0, s1, s2, s3, s4, s5, s6, s7, s8, s9]) (pl.map plD) [] S = .ok ((pl.filter isName).map fun p => D.int p.1) S := by
  rw [lc_map plD isName (fun p => D.int p.1) pl [] (fun p hp' => ?_) (by have := PySem.sizeLine_eq; have := hp.1; rw [List.length_nil]; omega), List.nil_append]
  obtain ⟨_, hw, hwl⟩ := hp.2 p hp'
  have it := in_tt (S := S) (w := p.2.1) (a := f_stake) (b := f_part) hw rfl rfl
  rw [fLcI_eq]
  unfold plD isName
  by_cases h : p.2.1 = f_stake ∨ p.2.1 = f_part
  · rw [if_pos (decide_eq_true h)]
    rw [decide_eq_true h] at it
    simp only [f_stake, f_part] at it
    dsimp? only [v_law_fact_3, u_law_fact_4, it]
  · rw [if_neg (by rw [decide_eq_false h]; decide)]
    rw [decide_eq_false h] at it
    simp only [f_stake, f_part] at it
    dsimp? only [v_law_fact_3, u_law_fact_4, it]
theorem s_law_factP {ns : List Int} {sc : D} (hs : Scr ns sc) (k w t d : Int) (hw : 0 < w) (hw2 : w ≤ 1000) (ht : 0 < t) (ht2 : t ≤ 1000) (hd : 0 ≤ d) (hd2 : d ≤ 100) (pl : Pln) (hp : okPln pl) : ∃ f : Fa, (okFa w t d f ∧ (faW f ≠ f_dig ∧ faW f ≠ f_pay)) ∧ ∀ (n : Nat) (S : Sto), callF TAB (n + 4) k_law_fact [sc, .int k, szD w t d, .lst (pl.map plD)] S = .ok (.v (faD f)) S := by
  have l0 := draw_lo ns k 0 (m := 20) (by omega)
  have u0 := draw_hi ns k 0 (m := 20) (by omega)
  have w0 : ∀ (n : Nat) (S : Sto), callF TAB (n + 1) k_law_draw [sc, .int k, .int 0, .int 20] S = .ok (.v (.int (draw ns k 0 20))) S := fun n S => s_law_draw n S hs k 0 20 (by omega) (by omega) (by omega)
  generalize draw ns k 0 20 = way at *
  have vl : ((pl.filter isVein).map fun p => D.int p.1) = ((pl.filter isVein).map Prod.fst).map D.int := by rw [List.map_map]; rfl
  have nl : ((pl.filter isName).map fun p => D.int p.1) = ((pl.filter isName).map Prod.fst).map D.int := by rw [List.map_map]; rfl
  have vb : ∀ i ∈ (pl.filter isVein).map Prod.fst, 1 ≤ i ∧ i ≤ 400 := fun i hi => by
    obtain ⟨p, hp', rfl⟩ := List.mem_map.mp hi
    exact (hp.2 p ((List.mem_filter.mp hp').1)).1
  have nb : ∀ i ∈ (pl.filter isName).map Prod.fst, 1 ≤ i ∧ i ≤ 400 := fun i hi => by
    obtain ⟨p, hp', rfl⟩ := List.mem_map.mp hi
    exact (hp.2 p ((List.mem_filter.mp hp').1)).1
  have vlen : ((pl.filter isVein).map Prod.fst).length ≤ 1000 := by
    rw [List.length_map]
    exact Nat.le_trans (List.length_filter_le _ _) hp.1
  have nlen : ((pl.filter isName).map Prod.fst).length ≤ 1000 := by
    rw [List.length_map]
    exact Nat.le_trans (List.length_filter_le _ _) hp.1
  have lc1 := fun (rc : Nat → List D → Sto → O R) (S : Sto) => fact_lc1 rc S (.v sc) (.v (.int k)) (.v (szD w t d)) (.v (.lst (pl.map plD))) (.v (.int way)) .un .un .un .un .un pl hp
  have lc2 := fun (rc : Nat → List D → Sto → O R) (S : Sto) => fact_lc2 rc S (.v sc) (.v (.int k)) (.v (szD w t d)) (.v (.lst (pl.map plD))) (.v (.int way)) (.v (.lst (((pl.filter isVein).map Prod.fst).map D.int))) .un .un .un .un pl hp
  rw [vl] at lc1
  rw [nl] at lc2
  generalize (pl.filter isVein).map Prod.fst = vs at *
  generalize (pl.filter isName).map Prod.fst = nms at *
  unfold szD at lc1 lc2
  have stake : ∃ f : Fa, (okFa w t d f ∧ (faW f ≠ f_dig ∧ faW f ≠ f_pay)) ∧ ∀ (n : Nat) (S : Sto), ∃ p a b c e, f = .stake p a b c e ∧ callF TAB (n + 2) k_law_who [sc, .int k, .int 1] S = .ok (.v (.int p)) S ∧ callF TAB (n + 2) k_law_rect [sc, .int k, .int 3, .int w, .int t] S = .ok (.v (.tup [.int a, .int b, .int c, .int e])) S := by
    obtain ⟨p, h1, h2⟩ := s_law_who hs k 1 (by omega) (by omega)
    obtain ⟨a, b, c, e, h3, h4⟩ := rectD_eq ns k 3 w t hw ht
    refine ⟨.stake p a b c e, ⟨⟨h1, by omega, by omega⟩, (by decide : f_stake ≠ f_dig ∧ f_stake ≠ f_pay)⟩, fun n S => ⟨p, a, b, c, e, rfl, h2 n S, ?_⟩⟩
    rw [← h3]
    exact s_law_rect n S hs k 3 w t hw ht (by omega) (by omega)
  by_cases hv : way < 3 ∨ (way < 8 ∧ vs = [])
  · obtain ⟨ss, cs, h1, h2⟩ := s_law_vein hs k w t d hw hw2 ht ht2 hd hd2
    refine ⟨_, ⟨h1, (by decide : f_vein ≠ f_dig ∧ f_vein ≠ f_pay)⟩, fun n S => ?_⟩
    have e0 := w0 (n + 2) S
    have e1 := h2 n S
    rw [call_eq t_law_fact rfl]
    unfold szD at *
    by_cases h3 : way < 3
    · dsimp? only [d_law_fact, e0, e1, lc1, lc2, h3]
    · obtain ⟨h8, hn⟩ := hv.resolve_left h3
      subst hn
      simp only [List.map_nil] at lc1 lc2
      dsimp? only [d_law_fact, e0, e1, lc1, lc2, h3, h8]
  · have h3 : ¬ way < 3 := fun h => hv (.inl h)
    have hz : ∀ x : Prop, way < 8 → ¬ (vs.length : Int) = 0 := fun _ h8 h => hv (.inr ⟨h8, List.length_eq_zero_iff.mp (by omega)⟩)
    by_cases hj : way < 5 ∧ d > 0
    · have h8 : way < 8 := by omega
      have hz' := hz True h8
      have l5 := draw_lo ns k 5 hj.2
      have u5 := draw_hi ns k 5 hj.2
      obtain ⟨a, ha, f1⟩ := s_law_pick hs k 1 (by omega) (by omega) vs vb vlen
      obtain ⟨b, hb, f2⟩ := s_law_pick hs k 3 (by omega) (by omega) vs vb vlen
      refine ⟨.join a b (1 + draw ns k 5 d), ⟨⟨ha, hb, by omega⟩, (by decide : f_join ≠ f_dig ∧ f_join ≠ f_pay)⟩, fun n S => ?_⟩
      have e0 := w0 (n + 2) S
      have e1 := f1 (n + 1) S
      have e2 := f2 (n + 1) S
      have e3 := s_law_draw (n + 2) S hs k 5 d hj.2 (by omega) (by omega)
      have h5 := hj.1
      have hd5 := hj.2
      rw [call_eq t_law_fact rfl]
      unfold szD at *
      dsimp? only [d_law_fact, e0, e1, e2, e3, lc1, lc2, h3, h8, hz', h5, hd5, List.length_map]
      rfl
    · by_cases hst : way < 12 ∨ (way < 17 ∧ nms = [])
      · obtain ⟨f, h1, h2⟩ := stake
        refine ⟨f, h1, fun n S => ?_⟩
        obtain ⟨p, a, b, c, e, rfl, f1, f2⟩ := h2 (n + 1) S
        have e0 := w0 (n + 2) S
        rw [call_eq t_law_fact rfl]
        unfold szD at *
        by_cases h12 : way < 12
        · by_cases h8 : way < 8
          · have hz' := hz True h8
            by_cases h5 : way < 5
            · have hd5 : ¬ d > 0 := fun h => hj ⟨h5, h⟩
              dsimp? only [d_law_fact, e0, f1, f2, lc1, lc2, h3, h8, hz', h5, hd5, h12, List.length_map]
              rfl
            · dsimp? only [d_law_fact, e0, f1, f2, lc1, lc2, h3, h8, hz', h5, h12, List.length_map]
              rfl
          · have h5 : ¬ way < 5 := by omega
            dsimp? only [d_law_fact, e0, f1, f2, lc1, lc2, h3, h8, h5, h12, List.length_map]
            rfl
        · obtain ⟨h17, hn⟩ := hst.resolve_left h12
          subst hn
          have h8 : ¬ way < 8 := by omega
          have h5 : ¬ way < 5 := by omega
          simp only [List.map_nil] at lc2
          dsimp? only [d_law_fact, e0, f1, f2, lc1, lc2, h3, h8, h5, h12, h17]
          rfl
      · have h12 : ¬ way < 12 := fun h => hst (.inl h)
        have h8 : ¬ way < 8 := by omega
        have h5 : ¬ way < 5 := by omega
        obtain ⟨f, g1, g2⟩ := s_law_claim_factP hs k (way - 12) w t d hw ht (by omega) (by omega) nms nb nlen
        refine ⟨f, g1, fun n S => ?_⟩
        have e0 := w0 (n + 2) S
        have e1 := g2 n S
        rw [call_eq t_law_fact rfl]
        unfold szD at *
        by_cases h17 : way < 17
        · have hz' : ¬ (nms.length : Int) = 0 := fun h => hst (.inr ⟨h17, List.length_eq_zero_iff.mp (by omega)⟩)
          dsimp? only [d_law_fact, e0, e1, lc1, lc2, h3, h8, h5, h12, h17, hz', List.length_map]
        · dsimp? only [d_law_fact, e0, e1, lc1, lc2, h3, h8, h5, h12, h17]
theorem s_law_fact {ns : List Int} {sc : D} (hs : Scr ns sc) (k w t d : Int) (hw : 0 < w) (hw2 : w ≤ 1000) (ht : 0 < t) (ht2 : t ≤ 1000) (hd : 0 ≤ d) (hd2 : d ≤ 100) (pl : Pln) (hp : okPln pl) : ∃ f : Fa, okFa w t d f ∧ ∀ (n : Nat) (S : Sto), callF TAB (n + 4) k_law_fact [sc, .int k, szD w t d, .lst (pl.map plD)] S = .ok (.v (faD f)) S := by
  obtain ⟨f, h, e⟩ := s_law_factP hs k w t d hw hw2 ht ht2 hd hd2 pl hp
  exact ⟨f, h.1, e⟩

theorem s_law_dig {ns : List Int} {sc : D} (hs : Scr ns sc) (k w t d : Int) (hw : 0 < w) (hw2 : w ≤ 1000) (ht : 0 < t) (ht2 : t ≤ 1000) (hd : 0 ≤ d) (hd2 : d ≤ 100) : ∃ f : Fa, (∃ p x y u v z n, f = .dig p x y u v z n) ∧ okFa w t d f ∧ ∀ (n : Nat) (S : Sto), callF TAB (n + 3) k_law_dig [sc, .int k, szD w t d] S = .ok (.v (faD f)) S := by
  obtain ⟨p, hp, f1⟩ := s_law_who hs k 12 (by omega) (by omega)
  obtain ⟨a, b, c, e, h3, h4⟩ := rectD_eq ns k 1 w t hw ht
  obtain ⟨a', b', c', e', h5, h6⟩ := rectD_eq ns k 5 w t hw ht
  have l9 := draw_lo ns k 9 (m := d + 1) (by omega)
  have u9 := draw_hi ns k 9 (m := d + 1) (by omega)
  obtain ⟨m, hm, em⟩ := pick_int (is := [9, 300, 1000000]) (draw_lo ns k 11 (m := 3) (by omega)) (draw_hi ns k 11 (m := 3) (by omega))
  have hm2 : 0 < m ∧ m ≤ 1000000 := by
    simp only [List.mem_cons, List.not_mem_nil, or_false] at hm
    omega
  have l10 := draw_lo ns k 10 hm2.1
  have u10 := draw_hi ns k 10 hm2.1
  refine ⟨.dig p a b c' e' (draw ns k 9 (d + 1)) (1 + draw ns k 10 m), ⟨_, _, _, _, _, _, _, rfl⟩, ⟨hp, by omega, by omega, by omega, by omega, by omega, by omega⟩, fun n S => ?_⟩
  have e1 := f1 n S
  have e2 := s_law_rect n S hs k 1 w t hw ht (by omega) (by omega)
  have e3 := s_law_rect n S hs k 5 w t hw ht (by omega) (by omega)
  have e4 := s_law_draw (n + 1) S hs k 9 (d + 1) (by omega) (by omega) (by omega)
  have e5 := s_law_draw (n + 1) S hs k 11 3 (by omega) (by omega) (by omega)
  have e6 := s_law_draw (n + 1) S hs k 10 m hm2.1 (by omega) (by omega)
  rw [h3] at e2
  rw [h5] at e3
  have c1 : cut [D.int a, .int b, .int c, .int e] none (some 2) = [.int a, .int b] := rfl
  have c2 : cut [D.int a', .int b', .int c', .int e'] (some 2) none = [.int c', .int e'] := rfl
  simp only [List.map_cons, List.map_nil] at em
  rw [call_eq t_law_dig rfl]
  unfold szD
  dsimp? only [d_law_dig, e1, e2, e3, e4, e5, e6, em, slR_tup, c1, c2]
  rfl
theorem s_law_pay {ns : List Int} {sc : D} (hs : Scr ns sc) (k w t d : Int) : ∃ f : Fa, (∃ p q n, f = .pay p q n) ∧ okFa w t d f ∧ ∀ (n : Nat) (S : Sto), callF TAB (n + 3) k_law_pay [sc, .int k] S = .ok (.v (faD f)) S := by
  obtain ⟨p, hp, f1⟩ := s_law_who hs k 1 (by omega) (by omega)
  obtain ⟨q, hq, f2⟩ := s_law_who hs k 3 (by omega) (by omega)
  obtain ⟨m, hm, em⟩ := pick_int (is := [9, 1000000]) (draw_lo ns k 6 (m := 2) (by omega)) (draw_hi ns k 6 (m := 2) (by omega))
  have hm2 : 0 < m ∧ m ≤ 1000000 := by
    simp only [List.mem_cons, List.not_mem_nil, or_false] at hm
    omega
  have l5 := draw_lo ns k 5 hm2.1
  have u5 := draw_hi ns k 5 hm2.1
  have e5 := fun n S => s_law_draw (n + 1) S hs k 6 2 (by omega) (by omega) (by omega)
  have e6 := fun n S => s_law_draw (n + 1) S hs k 5 m hm2.1 (by omega) (by omega)
  simp only [List.map_cons, List.map_nil] at em
  by_cases h : q = p
  · refine ⟨.pay p (p % 40 + 1) (1 + draw ns k 5 m), ⟨_, _, _, rfl⟩, ⟨hp, by omega, by omega, by omega⟩, fun n S => ?_⟩
    have e1 := f1 n S
    have e2 := f2 n S
    have e3 := e5 n S
    have e4 := e6 n S
    rw [call_eq t_law_pay rfl]
    dsimp? only [d_law_pay, e1, e2, e3, e4, em, h]
    rfl
  · refine ⟨.pay p q (1 + draw ns k 5 m), ⟨_, _, _, rfl⟩, ⟨hp, by omega, by omega, by omega⟩, fun n S => ?_⟩
    have e1 := f1 n S
    have e2 := f2 n S
    have e3 := e5 n S
    have e4 := e6 n S
    rw [call_eq t_law_pay rfl]
    dsimp? only [d_law_pay, e1, e2, e3, e4, em, h]
    rfl
theorem s_law_some_fact {ns : List Int} {sc : D} (hs : Scr ns sc) (k w t d : Int) (hw : 0 < w) (hw2 : w ≤ 1000) (ht : 0 < t) (ht2 : t ≤ 1000) (hd : 0 ≤ d) (hd2 : d ≤ 100) : ∃ f : Fa, okFa w t d f ∧ ∀ (n : Nat) (S : Sto), callF TAB (n + 5) k_law_some_fact [sc, .int k, szD w t d] S = .ok (.v (faD f)) S := by
  have l24 := draw_lo ns k 24 (m := 5) (by omega)
  have l21 := draw_lo ns k 21 (m := 400) (by omega)
  have u21 := draw_hi ns k 21 (m := 400) (by omega)
  by_cases h0 : draw ns k 24 5 = 0
  · obtain ⟨f, _, h1, h2⟩ := s_law_dig hs k w t d hw hw2 ht ht2 hd hd2
    refine ⟨f, h1, fun n S => ?_⟩
    have e0 := s_law_draw (n + 3) S hs k 24 5 (by omega) (by omega) (by omega)
    have e1 := h2 (n + 1) S
    rw [call_eq t_law_some_fact rfl]
    dsimp? only [d_law_some_fact, e0, h0, e1]
  · by_cases h1 : draw ns k 24 5 = 1
    · obtain ⟨f, _, h2, h3⟩ := s_law_pay hs k w t d
      refine ⟨f, h2, fun n S => ?_⟩
      have e0 := s_law_draw (n + 3) S hs k 24 5 (by omega) (by omega) (by omega)
      have e1 := h3 (n + 1) S
      rw [call_eq t_law_some_fact rfl]
      dsimp? only [d_law_some_fact, e0, h0, h1, e1]
    · obtain ⟨f, h2, h3⟩ := s_law_fact hs k w t d hw hw2 ht ht2 hd hd2 [(7, f_vein, []), (1 + draw ns k 21 400, f_stake, [])] ⟨by simp, fun p hp => by
        simp only [List.mem_cons, List.not_mem_nil, or_false] at hp
        rcases hp with rfl | rfl
        · exact ⟨⟨by omega, by omega⟩, rfl, by decide⟩
        · exact ⟨⟨by show 1 ≤ 1 + draw ns k 21 400; omega, by show 1 + draw ns k 21 400 ≤ 400; omega⟩, rfl, Nat.le_of_ble_eq_true rfl⟩⟩
      refine ⟨f, h2, fun n S => ?_⟩
      have e0 := s_law_draw (n + 3) S hs k 24 5 (by omega) (by omega) (by omega)
      have e2 := s_law_draw (n + 3) S hs k 21 400 (by omega) (by omega) (by omega)
      have e1 := h3 n S
      simp only [List.map_cons, List.map_nil, plD, f_vein, f_stake] at e1
      rw [call_eq t_law_some_fact rfl]
      dsimp? only [d_law_some_fact, e0, e2, h0, h1, e1]

theorem number_loop (rc : Nat → List D → Sto → O R) (S : Sto) (x : D) : ∀ (l : List Nat) (sl : Sl),
    (figAll l = true → ∃ sl', forL [] (bodyF TAB rc (G.name 1) b_number_1) (l.map fun c => txD [c]) [.v x, sl] S = .ok (.next [.v x, sl']) S) ∧
    (figAll l = false → forL [] (bodyF TAB rc (G.name 1) b_number_1) (l.map fun c => txD [c]) [.v x, sl] S = .ok (.ret (.v .non)) S)
  | [], sl => ⟨fun _ => ⟨sl, forL_nil⟩, fun h => by cases h⟩
  | c :: l, sl => by
    have ga : TAB.gv "FIGURES" = some (txD FG) := g_FIGURES
    have ih := number_loop rc S x l (.v (txD [c]))
    have hc : c ∈ FG ↔ 48 ≤ c ∧ c ≤ 57 := mem_FG
    have e0 : figAll (c :: l) = (decide (48 ≤ c ∧ c ≤ 57) && figAll l) := by
      unfold figAll
      rw [List.all_cons, Bool.decide_and]
    rw [e0, List.map_cons]
    by_cases h : 48 ≤ c ∧ c ≤ 57
    · have h' : (c ∈ FG) = True := eq_true (hc.mpr h)
      have st : bodyF TAB rc (G.name 1) b_number_1 (txD [c]) [.v x, sl] S = .ok (.next [.v x, .v (txD [c])]) S := by
        rw [bodyF_eq]
        dsimp? only [b_number_1, ga, in_t, h']
      rw [decide_eq_true h, Bool.true_and, forL_go (.inl st)]
      exact ih
    · have h' : (c ∈ FG) = False := eq_false fun z => h (hc.mp z)
      have st : bodyF TAB rc (G.name 1) b_number_1 (txD [c]) [.v x, sl] S = .ok (.ret (.v .non)) S := by
        rw [bodyF_eq]
        dsimp? only [b_number_1, ga, in_t, h']
      rw [decide_eq_false h, Bool.false_and, forL_ret st]
      exact ⟨fun z => (nomatch z), fun _ => rfl⟩
theorem s_number (n : Nat) (S : Sto) (l : List Nat) (ht : okT l = true) (hl : l.length ≤ 640) : callF TAB (n + 1) k_number [txD l] S = .ok (.v (oD (numO l))) S := by
  obtain ⟨g1, g2⟩ := number_loop (callF TAB n) S (txD l) l .un
  have int_t : ∀ l : List Nat, l.length ≤ 640 → biR .int S [.v (txD l)] = (PySem.intText? (txS l)).map fun i => R.v (.int i) := fun l h => by
    show (if (txS l).length ≤ 640 then (PySem.intText? (txS l)).map (fun i => R.v (.int i)) else none) = _
    rw [txS_len, if_pos h]
  rw [call_eq t_number rfl]
  cases l with
  | nil =>
    dsimp? only [d_number]
    rfl
  | cons c l =>
    have okc : okT [c] = true := okT_sub ht fun d hd => by
      simp at hd
      simp [hd]
    have hl' : l.length + 1 ≤ 640 := hl
    have e0 : L2.atI (c :: l) 0 = some c := atI_n (c :: l) 0
    by_cases h : c = 48 ∧ 1 < l.length + 1
    · obtain ⟨rfl, h⟩ := h
      have hn : numO (48 :: l) = none := if_pos (.inr (.inl ⟨rfl, h⟩))
      have h2 : (1 : Int) < ((l.length + 1 : Nat) : Int) := by omega

      rw [hn]
      dsimp? only [d_number, e0, h2, oD]
    · have h2 : (c = 48 ∧ (1 : Int) < ((l.length + 1 : Nat) : Int)) = False := eq_false fun z => h ⟨z.1, by omega⟩
      have h3 : ¬ ((c :: l).head? = some 48 ∧ 1 < (c :: l).length) := fun z => h ⟨by simpa using z.1, z.2⟩
      cases hf : figAll (c :: l) with
      | true =>
        obtain ⟨sl', g⟩ := g1 hf
        rw [List.map_cons] at g
        have hn : numO (c :: l) = some ((NumText.digitsVal (c :: l) : Nat) : Int) := if_neg (by rw [hf]; rintro (z | z | z); cases z; exact h3 z; cases z)
        have hi : PySem.intText? (txS (c :: l)) = some ((NumText.digitsVal (c :: l) : Nat) : Int) := SX.int_S hf (by simp) (by omega)
        rw [hn]
        dsimp? only [d_number, e0, h2, oD, g, int_t, hi]
      | false =>
        have g := g2 hf
        rw [List.map_cons] at g
        have hn : numO (c :: l) = none := if_pos (.inr (.inr hf))
        rw [hn]
        dsimp? only [d_number, e0, h2, oD, g]

/-- texts that may be numbers -/
def okW (ws : List (List Nat)) : Prop := ws.length ≤ 10000 ∧ ∀ w ∈ ws, okT w = true ∧ w.length ≤ 640
theorem s_numbers_of (n : Nat) (S : Sto) (ws : List (List Nat)) (h : okW ws) : callF TAB (n + 2) k_numbers_of [.lst (ws.map txD)] S = if (ws.any fun w => (numO w).isNone) = true then .ex x_BadText S else .ok (.v (.lst (ws.map fun w => oD (numO w)))) S := by
  obtain ⟨hl, hw⟩ := h
  have l1 : ∀ a b c d, lcL [] (fLc TAB (callF TAB (n + 1)) [2] (G.name 2) u_numbers_of_1 [.v a, b, c, d]) (ws.map txD) [] S = .ok (ws.map fun w => oD (numO w)) S := fun a b c d => by
    refine lc_all txD _ ws (fun w hw' => ?_) (by have := PySem.sizeLine_eq; omega)
    have := s_number n S w (hw w hw').1 (hw w hw').2
    rw [fLc_eq]
    dsimp? only [u_numbers_of_1, this]
  have l2 : ∀ a b c d, lcL [] (fLc TAB (callF TAB (n + 1)) [3] (G.name 3) u_numbers_of_2 [a, .v b, c, d]) (ws.map fun w => oD (numO w)) [] S = .ok (ws.map fun w => D.bl (numO w).isNone) S := fun a b c d => by
    refine lc_all (fun w => oD (numO w)) _ ws (fun w hw' => ?_) (by have := PySem.sizeLine_eq; omega)
    rw [fLc_eq]
    dsimp? only [u_numbers_of_2, isN_o]
  rw [call_eq t_numbers_of rfl]
  by_cases h : (ws.any fun w => (numO w).isNone) = true
  · dsimp? only [d_numbers_of, l1, l2, any_l, h]
  · dsimp? only [d_numbers_of, l1, l2, any_l, h]
theorem numW_sign {n s : Nat} (h : s < 48 ∨ 57 < s) : s ∉ numW n := TL.numL_free h
theorem okL_num {n : Nat} (h : n < 10 ^ 50) : okT (numW n) = true ∧ (numW n).length ≤ 60 ∧ 32 ∉ numW n := ⟨numW_ok n, Nat.le_trans (numW_len (by decide) h) (by decide), numW_sign (.inl (by decide))⟩
theorem sum_le {k : Nat} : ∀ {ls : List (List Nat)}, (∀ w ∈ ls, w.length ≤ k) → (ls.map List.length).sum ≤ ls.length * k
  | [], _ => Nat.zero_le _
  | w :: ls, h => by
    rw [List.map_cons, List.sum_cons, List.length_cons, Nat.succ_mul]
    have h1 := h w (by simp)
    have h2 := sum_le (ls := ls) fun x hx => h x (by simp [hx])
    omega
theorem joinL_len : ∀ ls : List (List Nat), (TL.joinL [32] ls).length ≤ (ls.map List.length).sum + ls.length
  | [] => Nat.le_refl _
  | [p] => by simp [TL.joinL]
  | p :: q :: r => by
    have := joinL_len (q :: r)
    rw [TL.joinL, List.length_append, List.length_append, List.map_cons, List.sum_cons, List.length_cons]
    simp only [List.length_cons, List.length_nil] at this ⊢
    omega
theorem pow_lt {n : Nat} (h : n < 10 ^ 50) : n < 10 ^ 60 := Nat.lt_of_lt_of_le h (by decide)
theorem strs_lc {own : List Nat} {i : Nat} {u : E} (rc : Nat → List D → Sto → O R) (S : Sto) (r : Loc) (hown : own = [i]) (hi : i < r.length) (hu : u = .bi .str (.cons (.var i) .nil)) (ys : List Nat) (hy : ∀ y ∈ ys, y < 10 ^ 50) (hl : ys.length ≤ 1000) : lcL [] (fLc TAB rc own (G.name i) u r) (ys.map fun (y : Nat) => D.int (y : Int)) [] S = .ok (ys.map fun y => txD (numW y)) S := by
  subst hown hu
  refine lc_all (fun (y : Nat) => D.int (y : Int)) _ ys (fun y hy' => ?_) (by have := PySem.sizeLine_eq; omega)
  have e1 := str_n (S := S) (pow_lt (hy y hy'))
  have e2 : ((r.set i .un).set i (.v (.int (y : Int))))[i]? = some (.v (.int (y : Int))) := by
    rw [List.getElem?_set_self (by rw [List.length_set]; exact hi)]
  rw [fLc_eq]
  dsimp? only [e1, e2]
theorem cut_t {l : List Nat} (i : Nat) : cut l none (some (i : Int)) = l.take i := by
  rw [cut_to' (by omega), Int.toNat_natCast]
theorem cut_d {l : List Nat} (i : Nat) : cut l (some (i : Int)) none = l.drop i := by
  rw [cut_from' (by omega), Int.toNat_natCast]
theorem cut_d1 {l : List Nat} (i : Nat) : cut l (some ((i : Int) + 1)) none = l.drop (i + 1) := by
  rw [cut_from' (by omega), show ((i : Int) + 1).toNat = i + 1 by omega]
def AL : List Nat := [32, 48, 49, 50, 51, 52, 53, 54, 55, 56, 57, 44, 45, 43, 46, 95, 126, 97, 101, 104, 105, 106, 107, 110, 111, 112, 114, 115, 116, 117, 118, 119, 120, 121, 122, 10, 65]
def TL5 : List (List Nat) := [[32], [10], [32, 48], [48], [44, 49]]
theorem s_law_bent {ns : List Int} {sc : D} (hs : Scr ns sc) (k j : Int) (hj : 0 ≤ j) (hj2 : j < 900) (l : List Nat) (ht : okT l = true) (hl : l.length ≤ 5000) : ∃ l' : List Nat, okT l' = true ∧ l'.length ≤ l.length + 2 ∧ ∀ (n : Nat) (S : Sto), callF TAB (n + 2) k_law_bent [sc, .int k, .int j, txD l] S = .ok (.v (txD l')) S := by
  have q0 : 0 < ((l.length : Nat) : Int) + 1 := by omega
  have l0 := draw_lo ns k j q0
  have u0 := draw_hi ns k j q0
  have e0 := fun n S => s_law_draw n S hs k j ((l.length : Int) + 1) q0 hj (by omega)
  have e1 := fun n S => s_law_draw n S hs k (j + 1) 37 (by omega) (by omega) (by omega)
  have e2 := fun n S => s_law_draw n S hs k (j + 2) 6 (by omega) (by omega) (by omega)
  have e3 := fun n S => s_law_draw n S hs k (j + 3) 5 (by omega) (by omega) (by omega)
  obtain ⟨i, hi⟩ : ∃ i : Nat, draw ns k j ((l.length : Int) + 1) = (i : Int) := ⟨(draw ns k j ((l.length : Int) + 1)).toNat, by omega⟩
  have pick_n : ∀ {xs : List Nat} {i : Int}, 0 ≤ i → i < xs.length → ∃ m ∈ xs, L2.atI xs i = some m := fun {xs i} h0 h1 => by
    obtain ⟨k, rfl⟩ : ∃ k : Nat, i = (k : Int) := ⟨i.toNat, by omega⟩
    have hk : k < xs.length := by omega
    exact ⟨xs[k], List.getElem_mem hk, by rw [atI_cast, List.getElem?_eq_getElem hk]⟩
  obtain ⟨c, hc, ec⟩ := pick_n (xs := AL) (draw_lo ns k (j + 1) (m := 37) (by omega)) (draw_hi ns k (j + 1) (m := 37) (by omega))
  obtain ⟨v, hv, ev⟩ := pick_w (ws := TL5) (draw_lo ns k (j + 3) (m := 5) (by omega)) (draw_hi ns k (j + 3) (m := 5) (by omega))
  have okc : okT [c] = true := by
    have : ∀ a ∈ AL, okT [a] = true := by decide
    exact this c hc
  have okv : okT v = true ∧ v.length ≤ 2 := by
    have : ∀ a ∈ TL5, okT a = true ∧ a.length ≤ 2 := by decide
    exact this v hv
  have okt : ∀ m, okT (l.take m) = true ∧ (l.take m).length ≤ l.length := fun m => ⟨okT_sub ht fun c h => List.mem_of_mem_take h, by rw [List.length_take]; omega⟩
  have okd : ∀ m, okT (l.drop m) = true ∧ (l.drop m).length ≤ l.length - m := fun m => ⟨okT_sub ht fun c h => List.mem_of_mem_drop h, by rw [List.length_drop]; exact Nat.le_refl _⟩
  have ti : (l.take i).length = i := by rw [List.length_take]; omega
  have tot : (l.take i).length + (l.drop i).length = l.length := by rw [List.length_take, List.length_drop]; omega
  have tot1 : (l.take i).length + (l.drop (i + 1)).length ≤ l.length := by rw [List.length_take, List.length_drop]; omega
  have c1 := cut_t (l := l) i
  have c2 := cut_d (l := l) i
  have c3 := cut_d1 (l := l) i
  obtain ⟨t1, t2⟩ := okt i
  obtain ⟨d1, d2⟩ := okd i
  obtain ⟨f1, f2⟩ := okd (i + 1)
  simp only [AL] at ec
  simp only [TL5, List.map_cons, List.map_nil] at ev
  generalize l.take i = A at *
  generalize l.drop i = B at *
  generalize l.drop (i + 1) = C at *
  rcases (show draw ns k (j + 2) 6 = 0 ∨ draw ns k (j + 2) 6 = 1 ∨ draw ns k (j + 2) 6 = 2 ∨ draw ns k (j + 2) 6 = 3 ∨ draw ns k (j + 2) 6 = 4 ∨ draw ns k (j + 2) 6 = 5 by
    have := draw_lo ns k (j + 2) (m := 6) (by omega)
    have := draw_hi ns k (j + 2) (m := 6) (by omega)
    omega) with h | h | h | h | h | h
  · refine ⟨A ++ [c] ++ B, okT_app (okT_app t1 okc) d1, by simp only [List.length_append, List.length_singleton]; omega, fun n S => ?_⟩
    have b0 := e0 n S
    have b1 := e1 n S
    have b2 := e2 n S
    rw [call_eq t_law_bent rfl]
    dsimp? only [d_law_bent, b0, b1, b2, hi, ec, h, c1, c2]
    done
  · refine ⟨A ++ C, okT_app t1 f1, by simp only [List.length_append]; omega, fun n S => ?_⟩
    have b0 := e0 n S
    have b1 := e1 n S
    have b2 := e2 n S
    rw [call_eq t_law_bent rfl]
    dsimp? only [d_law_bent, b0, b1, b2, hi, ec, h, c1, c3]
    done
  · refine ⟨A ++ [c] ++ C, okT_app (okT_app t1 okc) f1, by simp only [List.length_append, List.length_singleton]; omega, fun n S => ?_⟩
    have b0 := e0 n S
    have b1 := e1 n S
    have b2 := e2 n S
    rw [call_eq t_law_bent rfl]
    dsimp? only [d_law_bent, b0, b1, b2, hi, ec, h, c1, c3]
    done
  · refine ⟨A, t1, by omega, fun n S => ?_⟩
    have b0 := e0 n S
    have b1 := e1 n S
    have b2 := e2 n S
    rw [call_eq t_law_bent rfl]
    dsimp? only [d_law_bent, b0, b1, b2, hi, ec, h, c1]
    done
  · refine ⟨B, d1, by omega, fun n S => ?_⟩
    have b0 := e0 n S
    have b1 := e1 n S
    have b2 := e2 n S
    rw [call_eq t_law_bent rfl]
    dsimp? only [d_law_bent, b0, b1, b2, hi, ec, h, c2]
    done
  · refine ⟨l ++ v, okT_app ht okv.1, by simp only [List.length_append]; omega, fun n S => ?_⟩
    have b0 := e0 n S
    have b1 := e1 n S
    have b2 := e2 n S
    have b3 := e3 n S
    rw [call_eq t_law_bent rfl]
    dsimp? only [d_law_bent, b0, b1, b2, b3, hi, ec, ev, h]
    done

def szW (ws : List (List Nat)) : Nat := (ws.map List.length).sum + ws.length
theorem szW_cons (w : List Nat) (ws : List (List Nat)) : szW (w :: ws) = w.length + 1 + szW ws := by
  unfold szW
  rw [List.map_cons, List.sum_cons, List.length_cons]
  omega
theorem szW_mem {w : List Nat} : ∀ {ws : List (List Nat)}, w ∈ ws → w.length + 1 ≤ szW ws
  | x :: ws, h => by
    rw [szW_cons]
    rcases List.mem_cons.mp h with e | h
    · subst e
      omega
    · have := szW_mem h
      omega
theorem szW_len (ws : List (List Nat)) : ws.length ≤ szW ws := Nat.le_add_left _ _
theorem spl_facts : ∀ (l acc : List Nat), TL.spl [32] 0 acc l ≠ [] ∧ szW (TL.spl [32] 0 acc l) = acc.length + l.length + 1 ∧ ∀ w ∈ TL.spl [32] 0 acc l, ∀ c ∈ w, c ∈ acc ∨ c ∈ l
  | [], acc => by
    rw [TL.spl_nil]
    exact ⟨by simp, by rw [szW_cons]; rfl, fun w hw c hc => by
      rw [List.mem_singleton] at hw
      subst hw
      exact .inl hc⟩
  | c :: r, acc => by
    cases hp : TL.pre [32] (c :: r) with
    | true =>
      obtain ⟨h1, h2, h3⟩ := spl_facts r []
      rw [TL.spl_hit hp]
      refine ⟨by simp, ?_, fun w hw d hd => ?_⟩
      · rw [szW_cons]
        show _ + szW (TL.spl [32] 0 [] r) = _
        rw [h2, List.length_nil, List.length_cons]
        omega
      · rcases List.mem_cons.mp hw with e | hw
        · subst e
          exact .inl hd
        · exact .inr ((h3 w hw d hd).elim (fun h => nomatch h) fun h => by simp [h])
    | false =>
      obtain ⟨h1, h2, h3⟩ := spl_facts r (acc ++ [c])
      rw [TL.spl_miss hp]
      refine ⟨h1, ?_, fun w hw d hd => ?_⟩
      · rw [h2, List.length_append, List.length_singleton, List.length_cons]
        omega
      · rcases h3 w hw d hd with h | h
        · rcases List.mem_append.mp h with h | h
          · exact .inl h
          · rw [List.mem_singleton] at h
            exact .inr (by simp [h])
        · exact .inr (by simp [h])
theorem split_any {S : Sto} (l : List Nat) (ht : okT l = true) (hl : l.length ≤ 640) : ∃ ws : List (List Nat), bmR .split S (.v (txD l)) [txD [32]] = some (.l (ws.map txD), S) ∧ ws ≠ [] ∧ szW ws = l.length + 1 ∧ okW ws := by
  obtain ⟨h1, h2, h3⟩ := spl_facts l []
  have hsz : szW (TL.spl [32] 0 [] l) = l.length + 1 := by
    rw [h2, List.length_nil]
    omega
  refine ⟨_, split_t (by decide) (by decide) (by omega), h1, hsz, Nat.le_trans (szW_len _) (by omega), fun w hw => ⟨okT_sub ht fun c hc => (h3 w hw c hc).elim (fun h => nomatch h) id, ?_⟩⟩
  have := szW_mem hw
  omega
/-- lists and tuples -/
theorem s_same_seq {n : Nat} {S : Sto} {x y : D} {as bs : List D} {t : String} (ht : t = "tuple" ∨ t = "list") (tx : tyR S (.v x) = some t) (ty : tyR S (.v y) = some t) (lx : biR .len S [.v x] = some (.v (.int as.length))) (ly : biR .len S [.v y] = some (.v (.int bs.length)))
    (ix : ∀ i, ixR S (.v x) (.v (.int i)) = (L2.atI as i).map .v) (iy : ∀ i, ixR S (.v y) (.v (.int i)) = (L2.atI bs i).map .v) (h : Sms as bs) (hl : bs.length ≤ 16777216)
    (ih : ∀ (k : Nat) (a b : D), as[k]? = some a → bs[k]? = some b → callF TAB n k_law_same [a, b] S = .ok (.v (.bl true)) S) : callF TAB (n + 1) k_law_same [x, y] S = .ok (.v (.bl true)) S := by
  have loop : ∀ r : Loc, r = [.v x, .v y, .un, .un] → lcL [] (fLc TAB (callF TAB n) [3] (G.name 3) u_law_same_1 r) (rangeD 0 bs.length) [] S = .ok ((List.range bs.length).map fun _ => D.bl true) S := by
    intro r er
    subst er
    rw [rangeD_map]
    have := lc_all (S := S) (f := fLc TAB (callF TAB n) [3] (G.name 3) u_law_same_1 [.v x, .v y, .un, .un]) (fun (k : Nat) => D.int (0 + (k : Int))) (fun _ => D.bl true) (List.range ((bs.length : Int) - 0).toNat) (fun k hk => by
      rw [List.mem_range] at hk
      have hk : k < bs.length := by omega
      obtain ⟨a, ha, _⟩ := h.get (List.getElem?_eq_getElem hk)
      have := ih k a _ ha (List.getElem?_eq_getElem hk)
      rw [fLc_eq]
      simp? only [u_law_same_1, ix, iy, ha, List.getElem?_eq_getElem hk, this]) (by rw [List.length_range]; exact Nat.le_trans (by omega) (show (16777216 : Nat) ≤ sizeLine by decide))
    rw [this, Int.sub_zero]
    rfl
  have l1 : (-4611686018427387904 ≤ (bs.length : Int)) = True := eq_true (by omega)
  have l2 : ((bs.length : Int) < 4611686018427387904) = True := eq_true (by omega)
  have hall : ∀ k : Nat, biR .all S [.l ((List.range k).map fun _ => D.bl true)] = some (.v (.bl true)) := by
    intro k
    have : ∀ l : List Nat, boolsD (l.map fun _ => D.bl true) = some (l.map fun _ => true) := by
      intro l
      induction l with
      | nil => rfl
      | cons a l ihl => rw [List.map_cons, boolsD, ihl]; rfl
    show (match lsOf S (.l ((List.range k).map fun _ => D.bl true)) with
    | some ds => (boolsD ds).map fun (is : List Bool) => R.v (.bl (is.all id))
    | none => none) = _
    rw [lsOf_l]
    show ((boolsD _).map fun (is : List Bool) => R.v (.bl (is.all id))) = _
    rw [this]
    simp
  rw [call_eq t_law_same rfl]
  rcases ht with rfl | rfl
  · simp? only [d_law_same, tx, ty, lx, ly, h.length, l1, l2, loop _ rfl, hall]
  · simp? only [d_law_same, tx, ty, lx, ly, h.length, l1, l2, loop _ rfl, hall]
theorem s_law_same : ∀ (m : Nat) {n : Nat} {S : Sto} {x y : D}, Sm x y → dp y ≤ m → callF TAB (n + m + 1) k_law_same [x, y] S = .ok (.v (.bl true)) S := by
  intro m
  induction m with
  | zero =>
    intro n S x y h hd
    cases h with
    | int i => rw [call_eq t_law_same rfl]; simp? only [d_law_same]
    | bl b => rw [call_eq t_law_same rfl]; simp? only [d_law_same]
    | non => rw [call_eq t_law_same rfl]; simp? only [d_law_same]
    | str x hx =>
      have hs : PySem.SeqAt.shaped (.str x) = true := shaped_of (n := 0) hx (by simp only [PyData.depth]) (by omega)
      rw [call_eq t_law_same rfl]; simp? only [d_law_same, eqR_str hs hs]
    | _ => simp only [dp] at hd; omega
  | succ m ih =>
    intro n S x y h hd
    have it : ∀ {as bs : List D}, Sms as bs → dps bs ≤ m → ∀ (k : Nat) (a b : D), as[k]? = some a → bs[k]? = some b → callF TAB (n + (m + 1)) k_law_same [a, b] S = .ok (.v (.bl true)) S := fun r hd k a b ha hb => by
      obtain ⟨a', ha', hs⟩ := r.get hb
      rw [ha] at ha'
      cases ha'
      exact ih (n := n) hs (Nat.le_trans (dps_get hb) hd)
    have dd : ∀ {ds : List D}, dps ds + 1 ≤ m + 1 → dps ds ≤ m := fun h => by omega
    cases h with
    | int i => rw [call_eq t_law_same rfl]; simp? only [d_law_same]
    | bl b => rw [call_eq t_law_same rfl]; simp? only [d_law_same]
    | non => rw [call_eq t_law_same rfl]; simp? only [d_law_same]
    | str x hx =>
      have hs : PySem.SeqAt.shaped (.str x) = true := shaped_of (n := 0) hx (by simp only [PyData.depth]) (by omega)
      rw [call_eq t_law_same rfl]; simp? only [d_law_same, eqR_str hs hs]
    | tt hl r => exact s_same_seq (.inl rfl) (ty_tup _) (ty_tup _) (len_tup _) (len_tup _) (fun _ => ix_tup _ _) (fun _ => ix_tup _ _) r hl (it r (dd (by simpa only [dp] using hd)))
    | tk hl r => exact s_same_seq (.inl rfl) (ty_tup _) (ty_tpk _) (len_tup _) (len_tpk _) (fun _ => ix_tup _ _) (fun _ => ix_tpk _ _) r hl (it r (dd (by simpa only [dp] using hd)))
    | kt hl r => exact s_same_seq (.inl rfl) (ty_tpk _) (ty_tup _) (len_tpk _) (len_tup _) (fun _ => ix_tpk _ _) (fun _ => ix_tup _ _) r hl (it r (dd (by simpa only [dp] using hd)))
    | kk hl r => exact s_same_seq (.inl rfl) (ty_tpk _) (ty_tpk _) (len_tpk _) (len_tpk _) (fun _ => ix_tpk _ _) (fun _ => ix_tpk _ _) r hl (it r (dd (by simpa only [dp] using hd)))
    | ll hl r => exact s_same_seq (.inr rfl) (ty_lst _) (ty_lst _) (len_lst _) (len_lst _) (fun _ => ix_lst _ _) (fun _ => ix_lst _ _) r hl (it r (dd (by simpa only [dp] using hd)))
    | lk hl r => exact s_same_seq (.inr rfl) (ty_lst _) (ty_lsk _) (len_lst _) (len_lsk _) (fun _ => ix_lst _ _) (fun _ => ix_lsk _ _) r hl (it r (dd (by simpa only [dp] using hd)))
    | kl hl r => exact s_same_seq (.inr rfl) (ty_lsk _) (ty_lst _) (len_lsk _) (len_lst _) (fun _ => ix_lsk _ _) (fun _ => ix_lst _ _) r hl (it r (dd (by simpa only [dp] using hd)))
    | mm hl r => exact s_same_seq (.inr rfl) (ty_lsk _) (ty_lsk _) (len_lsk _) (len_lsk _) (fun _ => ix_lsk _ _) (fun _ => ix_lsk _ _) r hl (it r (dd (by simpa only [dp] using hd)))

theorem s_law_size {ns : List Int} {sc : D} (hs : Scr ns sc) (k : Int) : ∃ w t d : Int, 1 ≤ w ∧ w ≤ 24 ∧ 1 ≤ t ∧ t ≤ 24 ∧ 0 ≤ d ∧ d ≤ 12 ∧ ∀ (n : Nat) (S : Sto), callF TAB (n + 2) k_law_size [sc, .int k] S = .ok (.v (.tup [.int w, .int t, .int d])) S := by
  have l0 := draw_lo ns k 0 (m := 6) (by omega)
  have u0 := draw_hi ns k 0 (m := 6) (by omega)
  have l1 := draw_lo ns k 1 (m := 6) (by omega)
  have u1 := draw_hi ns k 1 (m := 6) (by omega)
  have l2 := draw_lo ns k 2 (m := 6) (by omega)
  have u2 := draw_hi ns k 2 (m := 6) (by omega)
  have l3 := draw_lo ns k 3 (m := 12) (by omega)
  have key : ∀ (w t d : Int), L2.atI [D.tup [.int 24, .int (1 + (1 + draw ns k 1 6) / 3), .int (draw ns k 2 6 / 2)], .tup [.int (1 + (1 + draw ns k 0 6) / 3), .int 24, .int (draw ns k 2 6 / 2)], .tup [.int (1 + (1 + draw ns k 0 6) / 3), .int (1 + (1 + draw ns k 1 6) / 3), .int 12], .tup [.int (1 + draw ns k 0 6), .int (1 + draw ns k 1 6), .int (draw ns k 2 6)]] (min 3 (draw ns k 3 12)) = some (.tup [.int w, .int t, .int d]) →
      ∀ (n : Nat) (S : Sto), callF TAB (n + 2) k_law_size [sc, .int k] S = .ok (.v (.tup [.int w, .int t, .int d])) S := by
    intro w t d h n S
    have dr := fun j m hm hj hj2 => s_law_draw n S hs k j m hm hj hj2
    have d0 := dr 0 6 (by omega) (by omega) (by omega)
    have d1 := dr 1 6 (by omega) (by omega) (by omega)
    have d2 := dr 2 6 (by omega) (by omega) (by omega)
    have d3 := dr 3 12 (by omega) (by omega) (by omega)
    rw [call_eq t_law_size rfl]
    simp? only [d_law_size, d0, d1, d2, d3, h]
  rcases (show min 3 (draw ns k 3 12) = 0 ∨ min 3 (draw ns k 3 12) = 1 ∨ min 3 (draw ns k 3 12) = 2 ∨ min 3 (draw ns k 3 12) = 3 by omega) with e | e | e | e <;> rw [e] at key
  · exact ⟨_, _, _, by omega, by omega, by omega, by omega, by omega, by omega, key _ _ _ rfl⟩
  · exact ⟨1 + (1 + draw ns k 0 6) / 3, 24, draw ns k 2 6 / 2, by omega, by omega, by omega, by omega, by omega, by omega, key _ _ _ rfl⟩
  · exact ⟨1 + (1 + draw ns k 0 6) / 3, 1 + (1 + draw ns k 1 6) / 3, 12, by omega, by omega, by omega, by omega, by omega, by omega, key _ _ _ rfl⟩
  · exact ⟨1 + draw ns k 0 6, 1 + draw ns k 1 6, draw ns k 2 6, by omega, by omega, by omega, by omega, by omega, by omega, key _ _ _ rfl⟩

def boundsT (N : Nat) (w t d : Int) : Sto := [.lst [.tup [.int 1, .int 400], .tup [.int 1, .int 400], .tup [.int 1, .int d]],
  .lst [.tup [.int 1, .int 40], .tup [.int 0, .int (w - 1)], .tup [.int 0, .int (t - 1)], .tup [.int 0, .int (w - 1)], .tup [.int 0, .int (t - 1)]],
  .lst [.tup [.int 1, .int 400]], .dk [(Sum.inr (txS f_join), .ref N), (Sum.inr (txS f_stake), .ref (N + 1)), (Sum.inr (txS f_work), .ref (N + 2)), (Sum.inr (txS f_sell), .ref (N + 4)), (Sum.inr (txS f_part), .ref (N + 5)), (Sum.inr (txS f_give), .ref (N + 6)), (Sum.inr (txS f_dig), .ref (N + 7)), (Sum.inr (txS f_pay), .ref (N + 8))], .lst [.tup [.int 1, .int 400], .tup [.int 1, .int 40]],
  .lst [.tup [.int 1, .int 400], .tup [.int 0, .int 1], .tup [.int 1, .int 23], .tup [.int 1, .int 40]],
  .lst [.tup [.int 1, .int 400]],
  .lst [.tup [.int 1, .int 40], .tup [.int 0, .int (w - 1)], .tup [.int 0, .int (t - 1)], .tup [.int 0, .int (w - 1)], .tup [.int 0, .int (t - 1)], .tup [.int 0, .int d], .tup [.int 1, .int 1000000]],
  .lst [.tup [.int 1, .int 40], .tup [.int 1, .int 40], .tup [.int 1, .int 1000000]]]
def bnD (p : Int × Int) : D := .tup [.int p.1, .int p.2]
/-- the row of bounds of a word -/
def rowB (w t d : Int) (wd : List Nat) : Option (List (Int × Int)) :=
  if wd = f_join then some [(1, 400), (1, 400), (1, d)]
  else if wd = f_stake then some [(1, 40), (0, w - 1), (0, t - 1), (0, w - 1), (0, t - 1)]
  else if wd = f_work then some [(1, 400)]
  else if wd = f_sell then some [(1, 400), (1, 40)]
  else if wd = f_part then some [(1, 400), (0, 1), (1, 23), (1, 40)]
  else if wd = f_give then some [(1, 400)]
  else if wd = f_dig then some [(1, 40), (0, w - 1), (0, t - 1), (0, w - 1), (0, t - 1), (0, d), (1, 1000000)]
  else if wd = f_pay then some [(1, 40), (1, 40), (1, 1000000)]
  else none
theorem s_law_bounds (n : Nat) (S : Sto) (w t d : Int) (wd : List Nat) : ∃ o, callF TAB (n + 1) k_law_bounds [szD w t d, txD wd] S = .ok (.v o) (S ++ boundsT S.length w t d) ∧ (rowB w t d wd = none → o = .non) ∧ (∀ row, rowB w t d wd = some row → ∃ a, o = .ref a ∧ (S ++ boundsT S.length w t d)[a]? = some (.lst (row.map bnD))) := by
  rw [call_eq t_law_bounds rfl]
  unfold szD rowB
  by_cases h0 : wd = f_join
  · subst h0
    refine ⟨.ref (S.length + 0), ?_, fun h => (by cases h), fun row e => (by cases e; exact ⟨_, rfl, gSk S _ 0⟩)⟩
    unfold boundsT
    dsimp? only [d_law_bounds, f_join, f_stake, f_work, f_sell, f_part, f_give, f_dig, f_pay, Option.getD_some, Nat.add_zero]
  rw [if_neg h0]
  by_cases h1 : wd = f_stake
  · subst h1
    refine ⟨.ref (S.length + 1), ?_, fun h => (by cases h), fun row e => (by cases e; exact ⟨_, rfl, gSk S _ 1⟩)⟩
    unfold boundsT
    dsimp? only [d_law_bounds, f_join, f_stake, f_work, f_sell, f_part, f_give, f_dig, f_pay, Option.getD_some, Nat.add_zero]
  rw [if_neg h1]
  by_cases h2 : wd = f_work
  · subst h2
    refine ⟨.ref (S.length + 2), ?_, fun h => (by cases h), fun row e => (by cases e; exact ⟨_, rfl, gSk S _ 2⟩)⟩
    unfold boundsT
    dsimp? only [d_law_bounds, f_join, f_stake, f_work, f_sell, f_part, f_give, f_dig, f_pay, Option.getD_some, Nat.add_zero]
  rw [if_neg h2]
  by_cases h3 : wd = f_sell
  · subst h3
    refine ⟨.ref (S.length + 4), ?_, fun h => (by cases h), fun row e => (by cases e; exact ⟨_, rfl, gSk S _ 4⟩)⟩
    unfold boundsT
    dsimp? only [d_law_bounds, f_join, f_stake, f_work, f_sell, f_part, f_give, f_dig, f_pay, Option.getD_some, Nat.add_zero]
  rw [if_neg h3]
  by_cases h4 : wd = f_part
  · subst h4
    refine ⟨.ref (S.length + 5), ?_, fun h => (by cases h), fun row e => (by cases e; exact ⟨_, rfl, gSk S _ 5⟩)⟩
    unfold boundsT
    dsimp? only [d_law_bounds, f_join, f_stake, f_work, f_sell, f_part, f_give, f_dig, f_pay, Option.getD_some, Nat.add_zero]
  rw [if_neg h4]
  by_cases h5 : wd = f_give
  · subst h5
    refine ⟨.ref (S.length + 6), ?_, fun h => (by cases h), fun row e => (by cases e; exact ⟨_, rfl, gSk S _ 6⟩)⟩
    unfold boundsT
    dsimp? only [d_law_bounds, f_join, f_stake, f_work, f_sell, f_part, f_give, f_dig, f_pay, Option.getD_some, Nat.add_zero]
  rw [if_neg h5]
  by_cases h6 : wd = f_dig
  · subst h6
    refine ⟨.ref (S.length + 7), ?_, fun h => (by cases h), fun row e => (by cases e; exact ⟨_, rfl, gSk S _ 7⟩)⟩
    unfold boundsT
    dsimp? only [d_law_bounds, f_join, f_stake, f_work, f_sell, f_part, f_give, f_dig, f_pay, Option.getD_some, Nat.add_zero]
  rw [if_neg h6]
  by_cases h7 : wd = f_pay
  · subst h7
    refine ⟨.ref (S.length + 8), ?_, fun h => (by cases h), fun row e => (by cases e; exact ⟨_, rfl, gSk S _ 8⟩)⟩
    unfold boundsT
    dsimp? only [d_law_bounds, f_join, f_stake, f_work, f_sell, f_part, f_give, f_dig, f_pay, Option.getD_some, Nat.add_zero]
  rw [if_neg h7]
  refine ⟨.non, ?_, fun _ => rfl, fun row e => (by cases e)⟩
  unfold boundsT
  have g0 : ∀ {x : List Nat}, ¬ wd = x → ¬ x = wd := fun h e => h e.symm
  have g1 := g0 h0
  have g2 := g0 h1
  have g3 := g0 h2
  have g4 := g0 h3
  have g5 := g0 h4
  have g6 := g0 h5
  have g7 := g0 h6
  have g8 := g0 h7
  simp only [f_join, f_stake, f_work, f_sell, f_part, f_give, f_dig, f_pay] at g1 g2 g3 g4 g5 g6 g7 g8
  dsimp? only [d_law_bounds, f_join, f_stake, f_work, f_sell, f_part, f_give, f_dig, f_pay, Option.getD_none, g1, g2, g3, g4, g5, g6, g7, g8, if_false]
theorem lnum_loop (rc : Nat → List D → Sto → O R) (S : Sto) (x : D) : ∀ (l pre : List Nat) (s2 s3 : Sl), figAll pre = true →
    (figAll l = true → ∃ s2' s3', forL [] (bodyF TAB rc (G.name 2) b_law_number_1) (l.map fun c => txD [c]) [.v x, .v (.int (NumText.digitsVal pre : Nat)), s2, s3] S = .ok (.next [.v x, .v (.int (NumText.digitsVal (pre ++ l) : Nat)), s2', s3']) S) ∧
    (figAll l = false → forL [] (bodyF TAB rc (G.name 2) b_law_number_1) (l.map fun c => txD [c]) [.v x, .v (.int (NumText.digitsVal pre : Nat)), s2, s3] S = .ok (.ret (.v .non)) S)
  | [], pre, s2, s3, _ => ⟨fun _ => ⟨s2, s3, by rw [List.append_nil]; exact forL_nil⟩, fun h => by cases h⟩
  | c :: l, pre, s2, s3, hp => by
    have e0 : figAll (c :: l) = (decide (48 ≤ c ∧ c ≤ 57) && figAll l) := by
      unfold figAll
      rw [List.all_cons, Bool.decide_and]
    have hf := find_fig c
    simp only [FG] at hf
    rw [e0, List.map_cons]
    by_cases h : 48 ≤ c ∧ c ≤ 57
    · rw [if_pos h] at hf
      have h1 : ((c : Int) - 48 < 0) = False := eq_false (by omega)
      have st : bodyF TAB rc (G.name 2) b_law_number_1 (txD [c]) [.v x, .v (.int (NumText.digitsVal pre : Nat)), s2, s3] S = .ok (.next [.v x, .v (.int (NumText.digitsVal (pre ++ [c]) : Nat)), .v (txD [c]), .v (.int ((c : Int) - 48))]) S := by
        have e1 : ((NumText.digitsVal (pre ++ [c]) : Nat) : Int) = (NumText.digitsVal pre : Nat) * 10 + ((c : Int) - 48) := by
          rw [digitsVal_snoc]
          omega
        rw [bodyF_eq, e1]
        dsimp? only [b_law_number_1, hf, h1]
      have hp' : figAll (pre ++ [c]) = true := by
        unfold figAll at hp ⊢
        rw [List.all_append, hp]
        simp [h]
      have ih := lnum_loop rc S x l (pre ++ [c]) (.v (txD [c])) (.v (.int ((c : Int) - 48))) hp'
      rw [decide_eq_true h, Bool.true_and, forL_go (.inl st)]
      rw [List.append_assoc] at ih
      exact ih
    · rw [if_neg h] at hf
      have st : bodyF TAB rc (G.name 2) b_law_number_1 (txD [c]) [.v x, .v (.int (NumText.digitsVal pre : Nat)), s2, s3] S = .ok (.ret (.v .non)) S := by
        rw [bodyF_eq]
        dsimp? only [b_law_number_1, hf]
      rw [decide_eq_false h, Bool.false_and, forL_ret st]
      exact ⟨fun z => (nomatch z), fun _ => rfl⟩
theorem s_law_number (n : Nat) (S : Sto) (l : List Nat) (ht : okT l = true) (hl : l.length ≤ 640) : callF TAB (n + 1) k_law_number [txD l] S = .ok (.v (oD (numO l))) S := by
  obtain ⟨g1, g2⟩ := lnum_loop (callF TAB n) S (txD l) l [] .un .un rfl
  have dv : NumText.digitsVal [] = 0 := rfl
  rw [dv, Int.natCast_zero] at g1 g2
  rw [call_eq t_law_number rfl]
  cases l with
  | nil =>
    dsimp? only [d_law_number]
    rfl
  | cons c l =>
    have okc : okT [c] = true := okT_sub ht fun d hd => by
      simp at hd
      simp [hd]
    have hl' : l.length + 1 ≤ 640 := hl
    have e0 : L2.atI (c :: l) 0 = some c := atI_n (c :: l) 0
    by_cases h : c = 48 ∧ 1 < l.length + 1
    · obtain ⟨rfl, h⟩ := h
      have hn : numO (48 :: l) = none := if_pos (.inr (.inl ⟨rfl, h⟩))
      have h2 : (1 : Int) < ((l.length + 1 : Nat) : Int) := by omega
      rw [hn]
      dsimp? only [d_law_number, e0, h2, oD]
    · have h2 : ((1 : Int) < ((l.length + 1 : Nat) : Int) ∧ c = 48) = False := eq_false fun z => h ⟨z.2, by omega⟩
      have h3 : ¬ ((c :: l).head? = some 48 ∧ 1 < (c :: l).length) := fun z => h ⟨by simpa using z.1, z.2⟩
      cases hf : figAll (c :: l) with
      | true =>
        obtain ⟨s2', s3', g⟩ := g1 hf
        rw [List.map_cons] at g
        have hn : numO (c :: l) = some ((NumText.digitsVal (c :: l) : Nat) : Int) := if_neg (by rw [hf]; rintro (z | z | z); cases z; exact h3 z; cases z)
        rw [hn]
        dsimp? only [d_law_number, e0, h2, oD, g, List.nil_append]
      | false =>
        have g := g2 hf
        rw [List.map_cons] at g
        have hn : numO (c :: l) = none := if_pos (.inr (.inr hf))
        rw [hn]
        dsimp? only [d_law_number, e0, h2, oD, g]

structure Cl where
  who : Int
  g : Int × Int × Int × Int
  days : List Int
  last : Int
  since : Option Int
  gone : Option Int
structure Fs where
  w : Int
  t : Int
  d : Int
  tm : Int
  here : Int
  fi : List (Int × List Int × List (Int × Int))
  jo : List (Int × Int × Int)
  cl : List (Int × Cl)
  row : List Int
  dug : List (Int × Int × Int)
  bk : List (Int × Int × Int × Int)
section
variable {K : Kd} {S : Sto} {a : Nat} {L : Ly} {F : Fs} {R : Ce}
end

def aliveB (c : Cl) (day : Int) : Bool := c.gone.isNone && decide (day ≤ c.last)
section
variable {S : Sto} {a : Nat} {L : Ly} {F : Fs} {R : Ce}
end

section
variable {S : Sto} {a : Nat} {L : Ly} {F : Fs} {R : Ce}
end

section
variable {S : Sto} {a : Nat} {L : Ly} {F : Fs} {R : Ce}
end

section
variable {S : Sto} {a : Nat} {L : Ly} {F : Fs} {R : Ce}
end

abbrev Rw := List (Option (Int × Int))
def ocD : Option (Int × Int) → D
  | none => .non
  | some c => pD c
def RwF (S : Sto) (a : Nat) (rows : List Rw) : Prop := ∀ i r, rows[i]? = some r → S[a + i]? = some (.lst (r.map ocD))
theorem RwF.hd {S : Sto} {a : Nat} {r : Rw} {rows : List Rw} (h : RwF S a (r :: rows)) : S[a]? = some (.lst (r.map ocD)) := h 0 r rfl
theorem RwF.tl {S : Sto} {a : Nat} {r : Rw} {rows : List Rw} (h : RwF S a (r :: rows)) : RwF S (a + 1) rows := fun i x e => by
  have := h (i + 1) x e
  rw [show a + 1 + i = a + (i + 1) by omega]
  exact this
section
variable {S : Sto} {a : Nat} {L : Ly} {F : Fs} {R : Ce}
end
section
variable {S : Sto} {a : Nat} {L : Ly} {F : Fs} {R : Ce}
end

section
variable {S : Sto} {a : Nat} {L : Ly} {F : Fs} {R : Ce}
end

section
variable {S : Sto} {a : Nat} {L : Ly} {F : Fs} {R : Ce}
end

section
variable {S : Sto} {a : Nat} {L : Ly} {F : Fs} {R : Ce}
end

structure Like (F G : Fs) : Prop where
  w : G.w = F.w
  t : G.t = F.t
  d : G.d = F.d
  m : G.tm = F.tm
  h : G.here = F.here
theorem Like.trans {F G H : Fs} (a : Like F G) (b : Like G H) : Like F H := ⟨b.w.trans a.w, b.t.trans a.t, b.d.trans a.d, b.m.trans a.m, b.h.trans a.h⟩
structure Later (F G : Fs) : Prop where
  hh : F.here ≤ G.here
  rw : F.row.Sublist G.row
  cl : ∀ k c, lk k F.cl = some c → ∃ c', lk k G.cl = some c' ∧ (c.since.isSome = true → c'.since = c.since) ∧ (aliveB c F.here = false → aliveB c' G.here = false)
theorem Later.trans {F G H : Fs} (a : Later F G) (b : Later G H) : Later F H := ⟨Int.le_trans a.hh b.hh, a.rw.trans b.rw, fun k c e => by
  obtain ⟨c1, e1, s1, d1⟩ := a.cl k c e
  obtain ⟨c2, e2, s2, d2⟩ := b.cl k c1 e1
  exact ⟨c2, e2, fun h => by rw [s2 (by rw [s1 h]; exact h), s1 h], fun h => d2 (d1 h)⟩⟩
abbrev Plan := List (Int × Fa)
/-- days rising, behind lo, no later than hi; facts sound -/
structure PlOk (w t d lo hi : Int) (pl : Plan) : Prop where
  asc : (pl.map Prod.fst).Pairwise (· < ·)
  day : ∀ p ∈ pl, lo < p.1 ∧ p.1 ≤ hi
  ok : ∀ p ∈ pl, okFa w t d p.2
theorem PlOk.nil (w t d lo hi : Int) : PlOk w t d lo hi [] := ⟨List.Pairwise.nil, fun _ h => absurd h List.not_mem_nil, fun _ h => absurd h List.not_mem_nil⟩
def ssTail : Ss → Ss
  | .cons _ t => t
  | .nil => .nil
inductive Wf where
  | num (w : List Nat) (is : List Nat)
  | vn (ss : List Nat) (cs : List (Nat × Nat))
def nD (n : Nat) : D := .int (n : Int)
def ncD (c : Nat × Nat) : D := .tup [.int (c.1 : Int), .int (c.2 : Int)]
def wfD : Wf → D
  | .num w is => .tup (txD w :: is.map nD)
  | .vn ss cs => .tup [txD f_vein, .tup (ss.map nD), .tup (cs.map ncD)]
def stepW (ss : List Nat) : List Nat := if ss = [] then [45] else ss.map (48 + ·)
def cellW (c : Nat × Nat) : List Nat := numW c.1 ++ (44 :: numW c.2)
def wfW : Wf → List (List Nat)
  | .num w is => w :: is.map numW
  | .vn ss cs => f_vein :: stepW ss :: cs.map cellW
def KW8 : List (List Nat × Nat) := [(f_join, 3), (f_stake, 5), (f_work, 1), (f_sell, 2), (f_part, 4), (f_give, 1), (f_dig, 7), (f_pay, 3)]
def okWf : Wf → Prop
  | .num w is => (w, is.length) ∈ KW8 ∧ ∀ i ∈ is, i < 10 ^ 50
  | .vn ss cs => ss.length ≤ 100 ∧ (∀ s ∈ ss, s < 10) ∧ (1 ≤ cs.length ∧ cs.length ≤ 100) ∧ ∀ c ∈ cs, c.1 < 10 ^ 50 ∧ c.2 < 10 ^ 50
/-- each word: its signs, its length, no blank, no line end -/
def okL2 (ls : List (List Nat)) : Prop := ∀ w ∈ ls, okT w = true ∧ w.length ≤ 200 ∧ 32 ∉ w
theorem join_words2 {S : Sto} {ls : List (List Nat)} (h : okL2 ls) (hl : ls.length ≤ 1000) (y : D) (hy : sqOf S (.v y) = some (ls.map txD)) : bmR .join S (.v (txD [32])) [y] = some (.v (txD (TL.joinL [32] ls)), S) := by
  refine join_t y hy ?_
  have := sum_le (k := 200) fun w hw => (h w hw).2.1
  show _ + ls.length * 1 ≤ _
  omega
theorem joinL_ok2 : ∀ {ls : List (List Nat)}, okL2 ls → okT (TL.joinL [32] ls) = true
  | [], _ => rfl
  | [p], h => (h p (by simp)).1
  | p :: q :: r, h => by
    rw [TL.joinL]
    exact okT_app (h p (by simp)).1 (okT_app rfl (joinL_ok2 fun x hx => h x (by simp [hx])))
theorem numW_dig {s : Nat} (h : s < 10) : numW s = [48 + s] := by
  match s, h with
  | 0, _ => rfl
  | 1, _ => rfl
  | 2, _ => rfl
  | 3, _ => rfl
  | 4, _ => rfl
  | 5, _ => rfl
  | 6, _ => rfl
  | 7, _ => rfl
  | 8, _ => rfl
  | 9, _ => rfl
theorem okT_dig {s : Nat} (h : s < 10) : okT [48 + s] = true := by rw [← numW_dig h]; exact numW_ok s
theorem okT_map : ∀ {l : List Nat}, (∀ c ∈ l, okT [c] = true) → okT l = true
  | [], _ => rfl
  | c :: l, h => okT_app (a := [c]) (h c (by simp)) (okT_map fun x hx => h x (by simp [hx]))
theorem digs_ok {ss : List Nat} (h : ∀ s ∈ ss, s < 10) : okT (ss.map (48 + ·)) = true := okT_map fun c hc => by
  obtain ⟨s, hs, rfl⟩ := List.mem_map.mp hc
  exact okT_dig (h s hs)
theorem stepW_ok {ss : List Nat} (hl : ss.length ≤ 100) (h : ∀ s ∈ ss, s < 10) : okT (stepW ss) = true ∧ (stepW ss).length ≤ 200 ∧ 32 ∉ stepW ss := by
  unfold stepW
  split
  · exact ⟨rfl, by decide, by decide⟩
  · refine ⟨digs_ok h, by rw [List.length_map]; omega, fun hm => ?_⟩
    obtain ⟨s, hs, e⟩ := List.mem_map.mp hm
    omega
theorem cellW_ok {c : Nat × Nat} (h : c.1 < 10 ^ 50 ∧ c.2 < 10 ^ 50) : okT (cellW c) = true ∧ (cellW c).length ≤ 200 ∧ 32 ∉ cellW c := by
  have a1 := numW_len (by decide : 0 < 50) h.1
  have a2 := numW_len (by decide : 0 < 50) h.2
  refine ⟨okT_app (numW_ok _) (okT_app (a := [44]) rfl (numW_ok _)), ?_, fun hm => ?_⟩
  · unfold cellW
    rw [List.length_append, List.length_cons]
    omega
  · unfold cellW at hm
    rcases List.mem_append.mp hm with h | h
    · exact numW_sign (.inl (by decide)) h
    · rcases List.mem_cons.mp h with h | h
      · cases h
      · exact numW_sign (.inl (by decide)) h
theorem KW8_ok : ∀ p ∈ KW8, okT p.1 = true ∧ p.1.length ≤ 10 ∧ 32 ∉ p.1 ∧ p.1 ≠ f_vein ∧ p.2 ≤ 7 ∧ 1 ≤ p.2 := by decide
theorem wf_ok {q : Wf} (h : okWf q) : okL2 (wfW q) := by
  cases q with
  | num w is =>
    have k := KW8_ok _ h.1
    intro x hx
    rcases List.mem_cons.mp hx with e | hx
    · subst e
      exact ⟨k.1, by have := k.2.1; dsimp only at this; omega, k.2.2.1⟩
    · obtain ⟨i, hi, rfl⟩ := List.mem_map.mp hx
      have := okL_num (h.2 i hi)
      exact ⟨this.1, by omega, this.2.2⟩
  | vn ss cs =>
    obtain ⟨h1, h2, h3, h4⟩ := h
    intro x hx
    rcases List.mem_cons.mp hx with e | hx
    · subst e
      exact ⟨rfl, by decide, by decide⟩
    · rcases List.mem_cons.mp hx with e | hx
      · subst e
        exact stepW_ok h1 h2
      · obtain ⟨c, hc, rfl⟩ := List.mem_map.mp hx
        exact cellW_ok (h4 c hc)
theorem wf_len {q : Wf} (h : okWf q) : (wfW q).length ≤ 200 ∧ wfW q ≠ [] := by
  cases q with
  | num w is =>
    have k := (KW8_ok _ h.1).2.2.2.2.1
    dsimp only at k
    exact ⟨by simp only [wfW, List.length_cons, List.length_map]; omega, by simp [wfW]⟩
  | vn ss cs =>
    have := h.2.2.1
    exact ⟨by simp only [wfW, List.length_cons, List.length_map]; omega, by simp [wfW]⟩
theorem join_digs {ss : List Nat} (h : ∀ s ∈ ss, s < 10) : TL.joinL [] (ss.map numW) = ss.map (48 + ·) := by
  have e : ss.map numW = (ss.map (48 + ·)).map fun c => [c] := by
    rw [List.map_map]
    exact List.map_congr_left fun s hs => numW_dig (h s hs)
  rw [e, joinL_ones]
theorem join_steps {S : Sto} {ss : List Nat} (h : ∀ s ∈ ss, s < 10) (hl : ss.length ≤ 100) (y : D) (hy : sqOf S (.v y) = some ((ss.map numW).map txD)) : bmR .join S (.v (txD [])) [y] = some (.v (txD (ss.map (48 + ·))), S) := by
  rw [← join_digs h]
  refine join_t y hy ?_
  have := sum_le (k := 1) (ls := ss.map numW) fun w hw => by
    obtain ⟨s, hs, rfl⟩ := List.mem_map.mp hw
    rw [numW_dig (h s hs)]
    exact Nat.le_refl _
  rw [List.length_map] at *
  show _ + ss.length * 0 ≤ _
  omega
theorem strs2 (rc : Nat → List D → Sto → O R) (S : Sto) (r : Loc) {own : List Nat} {i : Nat} {u : E} (hown : own = [i]) (hi : i < r.length) (hu : u = .bi .str (.cons (.var i) .nil)) (ys : List Nat) (hy : ∀ y ∈ ys, y < 10 ^ 50) (hl : ys.length ≤ 1000) : lcL [] (fLc TAB rc own (G.name i) u r) (ys.map nD) [] S = .ok ((ys.map numW).map txD) S := by
  have := strs_lc rc S r hown hi hu ys hy hl
  rw [List.map_map]
  exact this
theorem small {s : Nat} (h : s < 10) : s < 10 ^ 50 := Nat.lt_of_lt_of_le h (by decide)
theorem s_law_written (n : Nat) (S : Sto) (q : Wf) (h : okWf q) : callF TAB (n + 1) k_law_written [wfD q] S = .ok (.v (txD (TL.joinL [32] (wfW q)))) S := by
  have zz := PySem.sizeLine_eq
  cases q with
  | vn ss cs =>
    have hw := wf_ok h
    obtain ⟨hpl, _⟩ := wf_len h
    obtain ⟨h1, h2, h3, h4⟩ := h
    have lc1 : ∀ s2, lcL [] (fLc TAB (callF TAB n) [3] (G.name 3) u_law_written_2 [.v (wfD (.vn ss cs)), .un, s2, .un, .un]) (ss.map nD) [] S = .ok ((ss.map numW).map txD) S := fun s2 => strs2 (callF TAB n) S _ rfl (by simp) rfl ss (fun s hs => small (h2 s hs)) (by omega)
    have j1 := join_steps (S := S) h2 h1 (.lst ((ss.map numW).map txD)) rfl
    have lc2 : ∀ s2, lcL [] (fLc TAB (callF TAB n) [4] (G.name 4) u_law_written_3 [.v (wfD (.vn ss cs)), .un, s2, .un, .un]) (cs.map ncD) [] S = .ok ((cs.map cellW).map txD) S := fun s2 => by
      rw [List.map_map]
      refine lc_all ncD (fun c => txD (cellW c)) cs (fun c hc => ?_) (by omega)
      have a1 := h4 c hc
      have f1 := str_n (S := S) (pow_lt a1.1)
      have f2 := str_n (S := S) (pow_lt a1.2)
      have l1 := numW_len (by decide : 0 < 50) a1.1
      have l2 := numW_len (by decide : 0 < 50) a1.2
      have p1 := add_t (S := S) (a := numW c.1) (b := [44]) (by rw [List.length_singleton]; omega)
      have p2 := add_t (S := S) (a := numW c.1 ++ [44]) (b := numW c.2) (by rw [List.length_append, List.length_singleton]; omega)
      rw [fLc_eq]
      unfold ncD
      have e : numW c.1 ++ [44] ++ numW c.2 = cellW c := by rw [List.append_assoc]; rfl
      rw [e] at p2
      generalize cellW c = CW at *
      generalize numW c.1 = A at *
      generalize numW c.2 = B at *
      dsimp? only [u_law_written_3, f1, f2, p1, p2]
    have jn : ∀ w : List Nat, w = stepW ss → bmR .join S (.v (txD [32])) [.lst (txD f_vein :: txD w :: (cs.map cellW).map txD)] = some (.v (txD (TL.joinL [32] (wfW (.vn ss cs)))), S) := fun w hw' => by
      subst hw'
      exact join_words2 hw (by omega) _ rfl
    have e1 : wfD (.vn ss cs) = .tup [txD f_vein, .tup (ss.map nD), .tup (cs.map ncD)] := rfl
    have sl : (ss.map nD).length = ss.length := List.length_map _
    have cl : ((cs.map cellW).map txD).length ≤ 100 := by rw [List.length_map, List.length_map]; omega
    rw [call_eq t_law_written rfl]
    rw [e1] at lc1 lc2 ⊢
    generalize ss.map nD = SD at *
    generalize cs.map ncD = CD at *
    generalize (ss.map numW).map txD = SW at *
    generalize (cs.map cellW).map txD = CW at *
    generalize TL.joinL [32] (wfW (.vn ss cs)) = OUT at *
    simp only [f_vein] at jn lc1 lc2 ⊢
    by_cases hs : ss = []
    · have jn := jn [45] (by rw [stepW, if_pos hs])
      have hz : ((SD.length : Nat) : Int) = 0 := by rw [sl, hs]; rfl
      dsimp? only [d_law_written, lc1, j1, hz, lc2, jn]
    · have jn := jn (ss.map (48 + ·)) (by rw [stepW, if_neg hs])
      have hz : ¬ ((SD.length : Nat) : Int) = 0 := by
        have := List.length_pos_iff.mpr hs
        omega
      generalize ss.map (48 + ·) = ST at *
      dsimp? only [d_law_written, lc1, j1, hz, lc2, jn]
  | num w is =>
    have hw := wf_ok h
    obtain ⟨hpl, _⟩ := wf_len h
    obtain ⟨hk, hi⟩ := h
    have k := KW8_ok _ hk
    dsimp only at k
    have lc : ∀ r : Loc, 1 < r.length → lcL [] (fLc TAB (callF TAB n) [1] (G.name 1) u_law_written_1 r) (is.map nD) [] S = .ok ((is.map numW).map txD) S := fun r hr => strs2 _ S r rfl hr rfl is hi (by omega)
    have jn : bmR .join S (.v (txD [32])) [.lst (txD w :: (is.map numW).map txD)] = some (.v (txD (TL.joinL [32] (wfW (.num w is)))), S) := join_words2 hw (by omega) _ rfl
    have e0 : cut (txD w :: is.map nD) (some 1) none = is.map nD := by
      rw [cut_from' (by omega)]
      rfl
    have qw : eqR S (.v (txD w)) (.v (txD f_vein)) = some false := by
      rw [eq_t k.1 rfl, decide_eq_false k.2.2.2.1]
    have cl : ((is.map numW).map txD).length ≤ 100 := by rw [List.length_map, List.length_map]; omega
    have e1 : wfD (.num w is) = .tup (txD w :: is.map nD) := rfl
    rw [e1, call_eq t_law_written rfl]
    simp only [f_vein] at qw
    have a0 : L2.atI (txD w :: is.map nD) 0 = some (txD w) := atI_n (txD w :: is.map nD) 0
    generalize is.map nD = ID at *
    generalize (is.map numW).map txD = IW at *
    generalize TL.joinL [32] (wfW (.num w is)) = OUT at *
    dsimp? only [d_law_written, a0, qw, slR_tup, e0, lc, jn]
def numS5 (w : List Nat) : Bool := (numO w).isSome
def numD5 (w : List Nat) : D := oD (numO w)
theorem isN_lst5 {S : Sto} (i : List D) : cmpR .isN S (.v (.lst i)) (.v .non) = some false := rfl
theorem s_law_nums5 (n : Nat) (S : Sto) (ws : List (List Nat)) (h : okW ws) : callF TAB (n + 2) k_law_numbers [.lst (ws.map txD)] S = .ok (.v (if ws.all numS5 = true then .lst (ws.map numD5) else .non)) S := by
  obtain ⟨hl, hw⟩ := h
  have l1 : ∀ a b c d, lcL [] (fLc TAB (callF TAB (n + 1)) [2] (G.name 2) u_law_numbers_1 [.v a, b, c, d]) (ws.map txD) [] S = .ok (ws.map numD5) S := fun a b c d => by
    refine lc_all txD _ ws (fun w hw' => ?_) (by have := PySem.sizeLine_eq; omega)
    have := s_law_number n S w (hw w hw').1 (hw w hw').2
    rw [fLc_eq]
    dsimp? only [u_law_numbers_1, this, numD5]
  have l2 : ∀ a b c d, lcL [] (fLc TAB (callF TAB (n + 1)) [3] (G.name 3) u_law_numbers_2 [a, .v b, c, d]) (ws.map numD5) [] S = .ok (ws.map fun w => D.bl (numO w).isNone) S := fun a b c d => by
    refine lc_all numD5 _ ws (fun w hw' => ?_) (by have := PySem.sizeLine_eq; omega)
    rw [fLc_eq]
    dsimp? only [u_law_numbers_2, isN_o, numD5]
  have e : (ws.any fun w => (numO w).isNone) = !(ws.all numS5) := by
    clear hl hw l1 l2
    induction ws with
    | nil => rfl
    | cons w ws ih =>
      rw [List.any_cons, List.all_cons, ih, Bool.not_and]
      unfold numS5
      cases numO w <;> rfl
  rw [call_eq t_law_numbers rfl]
  cases ha : ws.all numS5 with
  | true =>
    rw [ha] at e
    dsimp? only [d_law_numbers, l1, l2, any_l, e]
  | false =>
    rw [ha] at e
    dsimp? only [d_law_numbers, l1, l2, any_l, e]
def figI (c : Nat) : Int := if 48 ≤ c ∧ c ≤ 57 then (c : Int) - 48 else -1
theorem splC_facts : ∀ (l acc : List Nat), TL.spl [44] 0 acc l ≠ [] ∧ ((TL.spl [44] 0 acc l).map fun w => w.length + 1).sum = acc.length + l.length + 1 ∧ ∀ w ∈ TL.spl [44] 0 acc l, ∀ c ∈ w, c ∈ acc ∨ c ∈ l
  | [], acc => by
    rw [TL.spl_nil]
    exact ⟨by simp, by simp, fun w hw c hc => by
      rw [List.mem_singleton] at hw
      subst hw
      exact .inl hc⟩
  | c :: r, acc => by
    cases hp : TL.pre [44] (c :: r) with
    | true =>
      obtain ⟨h1, h2, h3⟩ := splC_facts r []
      rw [TL.spl_hit hp]
      refine ⟨by simp, ?_, fun w hw d hd => ?_⟩
      · rw [List.map_cons, List.sum_cons]
        show _ + ((TL.spl [44] 0 [] r).map fun w => w.length + 1).sum = _
        rw [h2, List.length_nil, List.length_cons]
        omega
      · rcases List.mem_cons.mp hw with e | hw
        · subst e
          exact .inl hd
        · exact .inr ((h3 w hw d hd).elim (fun h => nomatch h) fun h => by simp [h])
    | false =>
      obtain ⟨h1, h2, h3⟩ := splC_facts r (acc ++ [c])
      rw [TL.spl_miss hp]
      refine ⟨h1, ?_, fun w hw d hd => ?_⟩
      · rw [h2, List.length_append, List.length_singleton, List.length_cons]
        omega
      · rcases h3 w hw d hd with h | h
        · rcases List.mem_append.mp h with h | h
          · exact .inl h
          · rw [List.mem_singleton] at h
            exact .inr (by simp [h])
        · exact .inr (by simp [h])
theorem sum_memC {w : List Nat} : ∀ {ws : List (List Nat)}, w ∈ ws → w.length + 1 ≤ (ws.map fun w => w.length + 1).sum
  | x :: ws, h => by
    rw [List.map_cons, List.sum_cons]
    rcases List.mem_cons.mp h with e | h
    · subst e
      omega
    · have := sum_memC h
      omega
theorem sum_lenC : ∀ ws : List (List Nat), ws.length ≤ (ws.map fun w => w.length + 1).sum
  | [] => Nat.le_refl _
  | x :: ws => by
    rw [List.map_cons, List.sum_cons, List.length_cons]
    have := sum_lenC ws
    omega
/-- the parts of a cell's word -/
def splC (w : List Nat) : List (List Nat) := TL.spl [44] 0 [] w
theorem splC_ok {w : List Nat} (h : okT w = true) (hl : w.length ≤ 640) : okW (splC w) := by
  obtain ⟨h1, h2, h3⟩ := splC_facts w []
  rw [List.length_nil, Nat.zero_add] at h2
  refine ⟨?_, fun x hx => ⟨okT_sub h fun c hc => (h3 x hx c hc).elim (fun h => nomatch h) id, ?_⟩⟩
  · have := sum_lenC (TL.spl [44] 0 [] w)
    show (TL.spl [44] 0 [] w).length ≤ 10000
    omega
  · have := sum_memC (show x ∈ TL.spl [44] 0 [] w from hx)
    omega
theorem split_C {S : Sto} {w : List Nat} (hl : w.length ≤ 640) : bmR .split S (.v (txD w)) [txD [44]] = some (.l ((splC w).map txD), S) := split_t (by decide) (by decide) (by omega)
def cellO (w : List Nat) : Option D := if (splC w).all numS5 = true ∧ (splC w).length = 2 then some (.tup ((splC w).map numD5)) else none
def cellsO : List (List Nat) → Option (List D)
  | [] => some []
  | w :: ws => match cellO w with
    | none => none
    | some d => (cellsO ws).map (d :: ·)
theorem cellsO_cons (w : List Nat) (ws : List (List Nat)) : cellsO (w :: ws) = match cellO w with
  | none => none
  | some d => (cellsO ws).map (d :: ·) := rfl
def stepsL (w : List Nat) : List Int := if w = [45] then [] else w.map figI
def readV (s : List Nat) (cs : List (List Nat)) : Option D := if cs = [] ∨ s = [] then none else match cellsO cs with
  | none => none
  | some ds => if ((stepsL s).any fun i => decide (i < 0)) = true then none else some (.tup [txD f_vein, .tup (iD (stepsL s)), .tup ds])
def resV (s : List Nat) (cs : List (List Nat)) : D := (match cellsO cs with
  | none => none
  | some ds => if ((stepsL s).any fun i => decide (i < 0)) = true then none else some (D.tup [txD f_vein, .tup (iD (stepsL s)), .tup ds])).getD .non
def readO : List (List Nat) → Option D
  | [] => none
  | w :: rest => if w = f_vein then (match rest with
    | [] => none
    | s :: cs => readV s cs) else (match rowB 1 1 1 w with
    | none => none
    | some row => if rest.all numS5 = true ∧ rest.length = row.length then some (.tup (txD w :: rest.map numD5)) else none)
theorem cellsV_loop (n : Nat) (S : Sto) (s0 s1 s2 s6 : Sl) : ∀ (cs : List (List Nat)) (acc : List D) (s4 s5 : Sl), (∀ w ∈ cs, okT w = true ∧ w.length ≤ 640) → acc.length + cs.length ≤ 10000 →
    (∀ ds, cellsO cs = some ds → ∃ r4 r5, forL [] (bodyF TAB (callF TAB (n + 2)) (G.name 4) b_law_read_vein_2) (cs.map txD) [s0, s1, s2, .own acc, s4, s5, s6] S = .ok (.next [s0, s1, s2, .own (acc ++ ds), r4, r5, s6]) S) ∧
    (cellsO cs = none → forL [] (bodyF TAB (callF TAB (n + 2)) (G.name 4) b_law_read_vein_2) (cs.map txD) [s0, s1, s2, .own acc, s4, s5, s6] S = .ok (.ret (.v .non)) S)
  | [], acc, s4, s5, _, _ => ⟨fun ds h => by
    cases h
    exact ⟨s4, s5, by rw [List.append_nil]; exact forL_nil⟩, fun h => by cases h⟩
  | w :: cs, acc, s4, s5, hw, hl => by
    rw [List.length_cons] at hl
    have hw0 := hw w List.mem_cons_self
    have sp := split_C (S := S) hw0.2
    have okc := splC_ok hw0.1 hw0.2
    have e1 := s_law_nums5 n S (splC w) okc
    have zz := PySem.sizeLine_eq
    have sl := okc.1
    have al : acc.length < 16777216 := by omega
    have ln : ((splC w).map numD5).length = (splC w).length := List.length_map _
    show _ ∧ _
    cases hc : cellO w with
    | none =>
      have hn : cellsO (w :: cs) = none := by unfold cellsO; rw [hc]
      rw [hn]
      refine ⟨fun ds h => by (cases h), fun _ => ?_⟩
      rw [List.map_cons]
      unfold cellO at hc
      by_cases ha : (splC w).all numS5 = true
      · have h2 : ¬ (splC w).length = 2 := fun h => by
          rw [if_pos ⟨ha, h⟩] at hc
          cases hc
        have h2' : ¬ (((splC w).length : Nat) : Int) = 2 := by omega
        rw [if_pos ha] at e1
        refine forL_ret ?_
        rw [bodyF_eq]
        generalize (splC w).map numD5 = X at *
        generalize (splC w).map txD = Y at *
        dsimp? only [b_law_read_vein_2, sp, e1, isN_lst5, ln, h2']
      · rw [if_neg ha] at e1
        refine forL_ret ?_
        rw [bodyF_eq]
        generalize (splC w).map txD = Y at *
        dsimp? only [b_law_read_vein_2, sp, e1]
    | some d =>
      unfold cellO at hc
      have hq : (splC w).all numS5 = true ∧ (splC w).length = 2 := by
        rcases Classical.em ((splC w).all numS5 = true ∧ (splC w).length = 2) with h | h
        · exact h
        · rw [if_neg h] at hc
          cases hc
      obtain ⟨ha, h2⟩ := hq
      rw [if_pos ⟨ha, h2⟩] at hc
      cases hc
      rw [if_pos ha] at e1
      have h2' : (((splC w).length : Nat) : Int) = 2 := by omega
      obtain ⟨i1, i2⟩ := cellsV_loop n S s0 s1 s2 s6 cs (acc ++ [.tup ((splC w).map numD5)]) (.v (txD w)) (.v (.lst ((splC w).map numD5))) (fun x hx => hw x (List.mem_cons_of_mem _ hx)) (by rw [List.length_append, List.length_singleton]; omega)
      have st : bodyF TAB (callF TAB (n + 2)) (G.name 4) b_law_read_vein_2 (txD w) [s0, s1, s2, .own acc, s4, s5, s6] S = .ok (.next [s0, s1, s2, .own (acc ++ [.tup ((splC w).map numD5)]), .v (txD w), .v (.lst ((splC w).map numD5)), s6]) S := by
        rw [bodyF_eq]
        generalize (splC w).map numD5 = X at *
        generalize (splC w).map txD = Y at *
        dsimp? only [b_law_read_vein_2, sp, e1, isN_lst5, ln, h2', al]
      have hcs : cellsO (w :: cs) = (cellsO cs).map ((.tup ((splC w).map numD5)) :: ·) := by
        rw [cellsO_cons, show cellO w = some (.tup ((splC w).map numD5)) from if_pos ⟨ha, h2⟩]
      rw [hcs, List.map_cons, forL_go (.inl st)]
      cases hr : cellsO cs with
      | none => exact ⟨fun ds h => by (cases h), fun _ => i2 hr⟩
      | some ds0 =>
        refine ⟨fun ds h => ?_, fun h => by (cases h)⟩
        cases h
        obtain ⟨r4, r5, e⟩ := i1 ds0 hr
        exact ⟨r4, r5, by rw [e, List.append_assoc]; rfl⟩
theorem stepsV_loop (rc : Nat → List D → Sto → O R) (S : Sto) (s0 s3 s4 s5 s6 : Sl) : ∀ (l : List Nat) (acc : List D) (s2 : Sl), acc.length + l.length ≤ 10000 → ∃ r2, forL [] (bodyF TAB rc (G.name 2) b_law_read_vein_1) (l.map fun c => txD [c]) [s0, .own acc, s2, s3, s4, s5, s6] S = .ok (.next [s0, .own (acc ++ iD (l.map figI)), r2, s3, s4, s5, s6]) S
  | [], acc, s2, _ => ⟨s2, by
    rw [show iD (([] : List Nat).map figI) = [] from rfl, List.append_nil]
    exact forL_nil⟩
  | c :: l, acc, s2, hl => by
    rw [List.length_cons] at hl
    have hf := find_fig c
    have zz := PySem.sizeLine_eq
    have al : acc.length < 16777216 := by omega
    obtain ⟨r2, ih⟩ := stepsV_loop rc S s0 s3 s4 s5 s6 l (acc ++ [.int (figI c)]) (.v (txD [c])) (by rw [List.length_append, List.length_singleton]; omega)
    refine ⟨r2, ?_⟩
    rw [List.map_cons, forL_go (r' := [s0, .own (acc ++ [.int (figI c)]), .v (txD [c]), s3, s4, s5, s6]) (S' := S) (.inl (by
      rw [bodyF_eq]
      have hf : Txt.find (txS FG) (txS [c]) = figI c := hf
      simp only [FG] at hf
      generalize figI c = fc at *
      dsimp? only [b_law_read_vein_1, hf, al])), ih, List.append_assoc]
    rfl
theorem s_law_read_vein (n : Nat) (S : Sto) {ws : List (List Nat)} (h : okW ws) (hl : ws.length ≤ 1000) {s : List Nat} {cs : List (List Nat)} (e : ws = f_vein :: s :: cs) : callF TAB (n + 3) k_law_read_vein [.lst (ws.map txD)] S = .ok (.v ((readV s cs).getD .non)) S := by
  have zz := PySem.sizeLine_eq
  subst e
  have hs := h.2 s (by simp)
  have lc0 : ((cs.map txD).length : Nat) = cs.length := List.length_map _
  have a1 : ((f_vein :: s :: cs).map txD)[1]? = some (txD s) := rfl
  rw [List.length_cons, List.length_cons] at hl
  have qs : eqR S (.v (txD s)) (.v (txD [])) = some (decide (s = [])) := eq_t hs.1 rfl
  have qd : eqR S (.v (txD s)) (.v (txD [45])) = some (decide (s = [45])) := eq_t hs.1 rfl
  unfold readV
  rw [call_eq t_law_read_vein rfl]
  by_cases h0 : cs = []
  · subst h0
    rw [if_pos (.inl rfl)]
    dsimp? only [d_law_read_vein]
    rfl
  · have cl : 1 ≤ cs.length := List.length_pos_iff.mpr h0
    have l3 : ¬ ((((cs.map txD).length + 1 + 1 : Nat)) : Int) < 3 := by omega
    by_cases h1 : s = []
    · subst h1
      rw [if_pos (.inr rfl)]
      rw [decide_eq_true rfl] at qs
      simp only [List.map_cons] at a1 ⊢
      generalize cs.map txD = CW at *
      dsimp? only [d_law_read_vein, l3, a1, qs]
      rfl
    · rw [if_neg (fun q => q.elim h0 h1)]
      rw [decide_eq_false h1] at qs
      have okcs : ∀ w ∈ cs, okT w = true ∧ w.length ≤ 640 := fun w hw => h.2 w (by simp [hw])
      have cc : cut ((f_vein :: s :: cs).map txD) (some 2) none = cs.map txD := by
        rw [cut_from' (by omega)]
        rfl
      have lcs : ∀ (s0 s2 s3 s4 s5 : Sl) (sl : List Int), sl.length ≤ 10000 → lcL [] (fLc TAB (callF TAB (n + 2)) [6] (G.name 6) u_law_read_vein_3 [s0, .v (.lst (iD sl)), s2, s3, s4, s5, .un]) (iD sl) [] S = .ok (sl.map fun i => D.bl (decide (i < 0))) S := fun s0 s2 s3 s4 s5 sl hsl => by
        generalize hX : iD sl = X
        rw [← hX]
        exact lc_all D.int (fun i => D.bl (decide (i < 0))) sl (fun i _ => by
          rw [fLc_eq]
          dsimp? only [u_law_read_vein_3]) (by omega)
      have ws0 : (f_vein :: s :: cs).map txD = txD f_vein :: txD s :: cs.map txD := rfl
      have fin : ∀ (sl : List Int) (r2 : Sl), sl = stepsL s → sl.length ≤ 640 → evSs TAB (callF TAB (n + 2)) (ssTail (ssTail (ssTail (ssTail d_law_read_vein.body)))) [.v (.lst ((f_vein :: s :: cs).map txD)), .v (.lst (iD sl)), r2, .un, .un, .un, .un] S = .ok (.ret (.v (resV s cs))) S := fun sl r2 hsl sll => by
        unfold resV
        rw [← hsl]
        obtain ⟨i1, i2⟩ := cellsV_loop n S (.v (.lst ((f_vein :: s :: cs).map txD))) (.v (.lst (iD sl))) r2 .un cs [] .un .un okcs (by rw [List.length_nil]; omega)
        have an := any_l (S := S) (fun i : Int => decide (i < 0)) sl
        cases hc : cellsO cs with
        | none =>
          have lp := i2 hc
          generalize (f_vein :: s :: cs).map txD = WW at *
          generalize cs.map txD = CW at *
          generalize iD sl = SL at *
          dsimp? only [d_law_read_vein, ssTail, sl_lst, cc, lp, Option.getD]
        | some ds =>
          obtain ⟨r4, r5, lp⟩ := i1 ds hc
          rw [List.nil_append] at lp
          have lc3 := lcs (.v (.lst ((f_vein :: s :: cs).map txD))) r2 (.v (.lst ds)) r4 r5 sl (by omega)
          cases ha : (sl.any fun i => decide (i < 0)) with
          | true =>
            rw [ha] at an
            generalize (f_vein :: s :: cs).map txD = WW at *
            generalize cs.map txD = CW at *
            generalize hB : (sl.map fun i => D.bl (decide (i < 0))) = BL at *
            generalize iD sl = SL at *
            dsimp? only [d_law_read_vein, ssTail, sl_lst, cc, lp, lc3, an]
            rfl
          | false =>
            rw [ha] at an
            generalize (f_vein :: s :: cs).map txD = WW at *
            generalize cs.map txD = CW at *
            generalize hB : (sl.map fun i => D.bl (decide (i < 0))) = BL at *
            generalize iD sl = SL at *
            dsimp? only [d_law_read_vein, ssTail, sl_lst, cc, lp, lc3, an]
            rfl
      show _ = O.ok (Pl.R.v (resV s cs)) S
      by_cases hd : s = [45]
      · have fin := fin [] .un (by unfold stepsL; rw [if_pos hd]) (Nat.zero_le _)
        rw [decide_eq_true hd] at qd
        generalize resV s cs = RES at *
        unfold d_law_read_vein at *
        simp only [ssTail] at fin
        rw [ws0] at a1 fin ⊢
        generalize (Ss.cons (Pl.S.own false 3 (E.lst Es.nil)) _) = TL9 at *
        have i0 : iD ([] : List Int) = [] := rfl
        rw [i0] at fin
        generalize cs.map txD = CW at *
        generalize txD s = SX at *
        dsimp? only [l3, a1, qs, qd, fin]
      · rw [decide_eq_false hd] at qd
        obtain ⟨r2, lp⟩ := stepsV_loop (callF TAB (n + 2)) S (.v (.lst ((f_vein :: s :: cs).map txD))) .un .un .un .un s [] .un (by rw [List.length_nil]; omega)
        rw [List.nil_append] at lp
        have sr := src_t (S := S) s
        have fin := fin (s.map figI) r2 (by unfold stepsL; rw [if_neg hd]) (by rw [List.length_map]; exact hs.2)
        generalize resV s cs = RES at *
        unfold d_law_read_vein at *
        simp only [ssTail] at fin
        rw [ws0] at a1 fin lp ⊢
        generalize (Ss.cons (Pl.S.own false 3 (E.lst Es.nil)) _) = TL9 at *
        generalize cs.map txD = CW at *
        generalize (s.map fun c => txD [c]) = SC at *
        generalize iD (s.map figI) = SF at *
        generalize txD s = SX at *
        dsimp? only [l3, a1, qs, qd, sr, lp, fin]
theorem s_law_read_vein1 (n : Nat) (S : Sto) : callF TAB (n + 3) k_law_read_vein [.lst [txD f_vein]] S = .ok (.v .non) S := by
  rw [call_eq t_law_read_vein rfl]
  dsimp? only [d_law_read_vein]

theorem s_law_read (n : Nat) (S : Sto) {ws : List (List Nat)} (h : okW ws) (hne : ws ≠ []) (hl : ws.length ≤ 1000) : ∃ T, callF TAB (n + 4) k_law_read [.lst (ws.map txD)] S = .ok (.v ((readO ws).getD .non)) (S ++ T) := by
  have zz := PySem.sizeLine_eq
  obtain ⟨w, rest, rfl⟩ : ∃ w rest, ws = w :: rest := by
    cases ws with
    | nil => exact absurd rfl hne
    | cons w rest => exact ⟨w, rest, rfl⟩
  have hw := h.2 w List.mem_cons_self
  have qv : eqR S (.v (txD w)) (.v (txD [118, 101, 105, 110])) = some (decide (w = [118, 101, 105, 110])) := eq_t hw.1 rfl
  have rl : ((rest.map txD).length : Nat) = rest.length := List.length_map _
  by_cases hv : w = f_vein
  · have hv' : w = [118, 101, 105, 110] := hv
    rw [decide_eq_true hv'] at qv
    refine ⟨[], ?_⟩
    rw [List.append_nil]
    subst hv
    have e1 : callF TAB (n + 3) k_law_read_vein [.lst ((f_vein :: rest).map txD)] S = .ok (.v ((readO (f_vein :: rest)).getD .non)) S := by
      cases rest with
      | nil => exact s_law_read_vein1 n S
      | cons s cs => exact s_law_read_vein n S h hl rfl
    rw [call_eq t_law_read rfl]
    generalize (readO (f_vein :: rest)).getD .non = RES at *
    simp only [List.map_cons] at e1 ⊢
    generalize rest.map txD = RW at *
    dsimp? only [d_law_read, qv, e1]
  · have hv' : ¬ w = [118, 101, 105, 110] := hv
    rw [decide_eq_false hv'] at qv
    obtain ⟨o, b1, b2, b3⟩ := s_law_bounds (n + 2) S 1 1 1 w
    refine ⟨boundsT S.length 1 1 1, ?_⟩
    have okr : okW rest := ⟨by have := h.1; rw [List.length_cons] at this; omega, fun x hx => h.2 x (List.mem_cons_of_mem _ hx)⟩
    have e2 := s_law_nums5 (n + 1) (S ++ boundsT S.length 1 1 1) rest okr
    have cc : cut (txD w :: rest.map txD) (some 1) none = rest.map txD := by
      rw [cut_from' (by omega)]
      rfl
    have re : readO (w :: rest) = (match rowB 1 1 1 w with
      | none => none
      | some row => if rest.all numS5 = true ∧ rest.length = row.length then some (.tup (txD w :: rest.map numD5)) else none) := by
      exact if_neg hv
    rw [re, List.map_cons, call_eq t_law_read rfl]
    unfold szD at b1
    generalize S ++ boundsT S.length 1 1 1 = S2 at *
    cases hr : rowB 1 1 1 w with
    | none =>
      have o1 := b2 hr
      subst o1
      show _ = O.ok (Pl.R.v .non) S2
      by_cases ha : rest.all numS5 = true
      · rw [if_pos ha] at e2
        generalize rest.map txD = RW at *
        dsimp? only [d_law_read, qv, b1, sl_lst, cc, e2]
      · rw [if_neg ha] at e2
        generalize rest.map txD = RW at *
        dsimp? only [d_law_read, qv, b1, sl_lst, cc, e2]
    | some row =>
      obtain ⟨a, rfl, ga⟩ := b3 row hr
      have gl : (row.map bnD).length = row.length := List.length_map _
      have nl : (rest.map numD5).length = rest.length := List.length_map _
      have isn : cmpR .isN S2 (.v (.ref a)) (.v .non) = some false := rfl
      by_cases ha : rest.all numS5 = true
      · rw [if_pos ha] at e2
        by_cases hL : rest.length = row.length
        · have hL' : ((rest.length : Nat) : Int) = ((row.length : Nat) : Int) := by omega
          show _ = O.ok (Pl.R.v ((if rest.all numS5 = true ∧ rest.length = row.length then some (D.tup (txD w :: rest.map numD5)) else none).getD .non)) S2
          rw [if_pos ⟨ha, hL⟩]
          have rl2 : rest.length ≤ 1000 := by rw [List.length_cons] at hl; omega
          have z1 : (rest.map numD5).length + 1 ≤ 16777216 := by omega
          generalize rest.map txD = RW at *
          generalize rest.map numD5 = RN at *
          generalize row.map bnD = RB at *
          dsimp? only [d_law_read, qv, b1, sl_lst, cc, e2, isn, isN_lst5, ga, gl, nl, hL', z1]
          rfl
        · have hL' : ¬ ((rest.length : Nat) : Int) = ((row.length : Nat) : Int) := by omega
          show _ = O.ok (Pl.R.v ((if rest.all numS5 = true ∧ rest.length = row.length then some (D.tup (txD w :: rest.map numD5)) else none).getD .non)) S2
          rw [if_neg (fun q => hL q.2)]
          generalize rest.map txD = RW at *
          generalize rest.map numD5 = RN at *
          generalize row.map bnD = RB at *
          dsimp? only [d_law_read, qv, b1, sl_lst, cc, e2, isn, isN_lst5, ga, gl, nl, hL']
          rfl
      · rw [if_neg ha] at e2
        show _ = O.ok (Pl.R.v ((if rest.all numS5 = true ∧ rest.length = row.length then some (D.tup (txD w :: rest.map numD5)) else none).getD .non)) S2
        rw [if_neg (fun q => ha q.1)]
        generalize rest.map txD = RW at *
        dsimp? only [d_law_read, qv, b1, sl_lst, cc, e2, isn]
        rfl
theorem readO_isN {S : Sto} {ws : List (List Nat)} {x : D} (h : readO ws = some x) : cmpR .isN S (.v x) (.v .non) = some false := by
  cases ws with
  | nil => cases h
  | cons w rest =>
    simp only [readO] at h
    by_cases hv : w = f_vein
    · rw [if_pos hv] at h
      cases rest with
      | nil => cases h
      | cons s cs =>
        have h : readV s cs = some x := h
        unfold readV at h
        split at h
        · cases h
        · split at h
          · cases h
          · split at h
            · cases h
            · cases h
              rfl
    · rw [if_neg hv] at h
      split at h
      · cases h
      · split at h
        · cases h
          rfl
        · cases h
/-- a value, or BadText -/
def resO (o : Option D) (S : Sto) : O R := match o with
  | some d => .ok (.v d) S
  | none => .ex x_BadText S
def figO (c : Nat) : Option D := if 48 ≤ c ∧ c ≤ 57 then some (.int ((c : Int) - 48)) else none
theorem s_figure_any (n : Nat) (S : Sto) (c : Nat) : callF TAB (n + 1) k_figure [txD [c]] S = resO (figO c) S := by
  have ga : TAB.gv "FIGURES" = some (txD FG) := g_FIGURES
  have e : bmR .find S (.v (txD FG)) [txD [c]] = some (.v (.int (figI c)), S) := by
    rw [find_t, find_fig]
    rfl
  unfold figO figI at *
  by_cases h : 48 ≤ c ∧ c ≤ 57
  · rw [if_pos h] at e ⊢
    have lt : ¬ ((c : Int) - 48 < 0) := by omega
    rw [call_eq t_figure rfl]
    generalize txD [c] = X at *
    generalize (c : Int) - 48 = I at *
    dsimp? only [d_figure, ga, e, lt]
    rfl
  · rw [if_neg h] at e ⊢
    rw [call_eq t_figure rfl]
    generalize txD [c] = X at *
    dsimp? only [d_figure, ga, e]
    rfl
theorem lxOf_fig : ∀ (w : List Nat) (acc : List D), lxOf figO w acc = if ((w.map figI).any fun i => decide (i < 0)) = true then none else some (acc ++ iD (w.map figI))
  | [], acc => by
    rw [lxOf]
    simp [iD]
  | c :: w, acc => by
    unfold lxOf
    rw [List.map_cons, List.any_cons]
    by_cases h : 48 ≤ c ∧ c ≤ 57
    · have e1 : figO c = some (.int ((c : Int) - 48)) := if_pos h
      have e2 : figI c = (c : Int) - 48 := if_pos h
      have e3 : decide ((c : Int) - 48 < 0) = false := decide_eq_false (by omega)
      rw [e1, e2, e3, Bool.false_or]
      refine (lxOf_fig w _).trans ?_
      split
      · rfl
      · rw [List.append_assoc]
        rfl
    · have e1 : figO c = none := if_neg h
      have e2 : figI c = -1 := if_neg h
      rw [e1, e2]
      rfl
/-- the steps of a word, or BadText -/
def stepsO (w : List Nat) : Option D := if w = [] then none else if ((stepsL w).any fun i => decide (i < 0)) = true then none else some (.tup (iD (stepsL w)))
theorem s_steps_any (n : Nat) (S : Sto) {w : List Nat} (h : okT w = true) (hl : w.length ≤ 640) : callF TAB (n + 2) k_steps_of [txD w] S = resO (stepsO w) S := by
  have zz := PySem.sizeLine_eq
  have q1 : eqR S (.v (txD w)) (.v (txD [45])) = some (decide (w = [45])) := eq_t h rfl
  have q2 : eqR S (.v (txD w)) (.v (txD [])) = some (decide (w = [])) := eq_t h rfl
  by_cases h1 : w = [45]
  · subst h1
    rw [call_eq t_steps_of rfl]
    dsimp? only [d_steps_of, q1, q2]
    try rfl
  by_cases h2 : w = []
  · subst h2
    rw [call_eq t_steps_of rfl]
    dsimp? only [d_steps_of, q1, q2]
    try rfl
  rw [decide_eq_false h1] at q1
  rw [decide_eq_false h2] at q2
  have lc : lcxL [] (fLcx TAB (callF TAB (n + 1)) [1] (G.name 1) u_steps_of_1 [.v (txD w), .un]) (w.map fun c => txD [c]) [] S = match lxOf figO w [] with
    | some ds => .ok ds S
    | none => .ex x_BadText S := by
    refine lcx_any (fun c : Nat => txD [c]) figO w [] (fun c _ => ?_) (by rw [List.length_nil]; omega)
    have e := s_figure_any n S c
    rw [fLcx_eq]
    generalize txD w = Y at *
    cases hf : figO c with
    | none =>
      rw [hf] at e
      have e : callF TAB (n + 1) k_figure [txD [c]] S = .ex x_BadText S := e
      generalize txD [c] = X at *
      dsimp? only [u_steps_of_1, e]
    | some d =>
      rw [hf] at e
      have e : callF TAB (n + 1) k_figure [txD [c]] S = .ok (.v d) S := e
      generalize txD [c] = X at *
      dsimp? only [u_steps_of_1, e]
      try rfl
  rw [lxOf_fig] at lc
  have sr := src_t (S := S) w
  have sl : stepsL w = w.map figI := if_neg h1
  unfold stepsO
  rw [if_neg h2, sl, call_eq t_steps_of rfl]
  generalize (w.map fun c => txD [c]) = XS at *
  generalize txD w = Y at *
  have il : (iD (w.map figI)).length ≤ 640 := by
    unfold iD
    rw [List.length_map, List.length_map]
    exact hl
  generalize iD (w.map figI) = SD at *
  by_cases ha : ((w.map figI).any fun i => decide (i < 0)) = true
  · rw [if_pos ha] at lc ⊢
    have lc : lcxL [] (fLcx TAB (callF TAB (n + 1)) [1] (G.name 1) u_steps_of_1 [.v Y, .un]) XS [] S = .ex x_BadText S := lc
    dsimp? only [d_steps_of, q1, q2, sr, lc]
    try rfl
  · rw [if_neg ha] at lc ⊢
    have lc : lcxL [] (fLcx TAB (callF TAB (n + 1)) [1] (G.name 1) u_steps_of_1 [.v Y, .un]) XS [] S = .ok SD S := lc
    dsimp? only [d_steps_of, q1, q2, sr, lc]
    try rfl
theorem any_not5 : ∀ ws : List (List Nat), (ws.any fun w => (numO w).isNone) = !(ws.all numS5)
  | [] => rfl
  | w :: ws => by
    rw [List.any_cons, List.all_cons, any_not5 ws, Bool.not_and]
    unfold numS5
    cases numO w <;> rfl
theorem s_cell_any (n : Nat) (S : Sto) {w : List Nat} (h : okT w = true) (hl : w.length ≤ 640) : callF TAB (n + 3) k_cell_of [txD w] S = resO (cellO w) S := by
  have sp := split_C (S := S) hl
  have bo : bmOk .split S (.v (txD w)) = true := rfl
  have nm := s_numbers_of n S (splC w) (splC_ok h hl)
  rw [any_not5] at nm
  have pl : ((splC w).map txD).length = (splC w).length := List.length_map _
  have nd : ((splC w).map numD5).length = (splC w).length := List.length_map _
  have e0 : ((splC w).map fun w => oD (numO w)) = (splC w).map numD5 := rfl
  rw [e0] at nm
  unfold cellO
  rw [call_eq t_cell_of rfl]
  generalize txD w = X at *
  generalize (splC w).map txD = P at *
  generalize (splC w).map numD5 = ND at *
  by_cases h2 : (splC w).length = 2
  · have h2' : ((P.length : Nat) : Int) = 2 := by omega
    cases ha : (splC w).all numS5 with
    | true =>
      rw [ha] at nm
      rw [if_pos ⟨rfl, h2⟩]
      rw [if_neg (by decide)] at nm
      dsimp? only [d_cell_of, bo, sp, h2', nm]
      try rfl
    | false =>
      rw [ha] at nm
      rw [if_neg fun q => by cases q.1]
      rw [if_pos (by decide)] at nm
      dsimp? only [d_cell_of, bo, sp, h2', nm]
      try rfl
  · have h2' : ¬ ((P.length : Nat) : Int) = 2 := by omega
    rw [if_neg fun q => h2 q.2]
    dsimp? only [d_cell_of, bo, sp, h2']
    try rfl
theorem lxOf_cells : ∀ (cs : List (List Nat)) (acc : List D), lxOf cellO cs acc = (cellsO cs).map (acc ++ ·)
  | [], acc => by
    show some acc = some (acc ++ [])
    rw [List.append_nil]
  | c :: cs, acc => by
    unfold lxOf
    rw [cellsO_cons]
    cases cellO c with
    | none => rfl
    | some d =>
      refine (lxOf_cells cs _).trans ?_
      cases cellsO cs with
      | none => rfl
      | some ds =>
        show some (acc ++ [d] ++ ds) = some (acc ++ d :: ds)
        rw [List.append_assoc]
        rfl
theorem s_read_vein_any (n : Nat) (S : Sto) {rest : List (List Nat)} (h : okW (f_vein :: rest)) (hl : rest.length ≤ 1000) : callF TAB (n + 4) k_read_vein [.lst ((f_vein :: rest).map txD)] S = resO (readO (f_vein :: rest)) S := by
  have zz := PySem.sizeLine_eq
  cases rest with
  | nil =>
    rw [call_eq t_read_vein rfl]
    dsimp? only [d_read_vein]
    try rfl
  | cons s cs =>
    have rd : readO (f_vein :: s :: cs) = readV s cs := by
      unfold readO
      exact if_pos rfl
    rw [rd]
    cases cs with
    | nil =>
      have e : readV s [] = none := if_pos (.inl rfl)
      rw [e]
      simp only [List.map_cons, List.map_nil]
      generalize txD s = A
      generalize txD f_vein = B
      rw [call_eq t_read_vein rfl]
      dsimp? only [d_read_vein]
      try rfl
    | cons c cs =>
      have hs := h.2 s (by simp)
      have e1 := s_steps_any (n + 1) S hs.1 hs.2
      have hc : ∀ w ∈ c :: cs, okT w = true ∧ w.length ≤ 640 := fun w hw => h.2 w (by simp only [List.mem_cons] at hw ⊢; exact .inr (.inr hw))
      have lc : ∀ s0 s1, lcxL [] (fLcx TAB (callF TAB (n + 3)) [2] (G.name 2) u_read_vein_1 [s0, s1, .un]) ((c :: cs).map txD) [] S = match lxOf cellO (c :: cs) [] with
        | some ds => .ok ds S
        | none => .ex x_BadText S := fun s0 s1 => by
        refine lcx_any txD cellO (c :: cs) [] (fun w hw => ?_) (by rw [List.length_nil]; simp only [List.length_cons] at hl ⊢; omega)
        have e := s_cell_any n S (hc w hw).1 (hc w hw).2
        rw [fLcx_eq]
        cases hf : cellO w with
        | none =>
          rw [hf] at e
          have e : callF TAB (n + 3) k_cell_of [txD w] S = .ex x_BadText S := e
          generalize txD w = X at *
          dsimp? only [u_read_vein_1, e]
        | some d =>
          rw [hf] at e
          have e : callF TAB (n + 3) k_cell_of [txD w] S = .ok (.v d) S := e
          generalize txD w = X at *
          dsimp? only [u_read_vein_1, e]
          try rfl
      rw [lxOf_cells] at lc
      have ew : (f_vein :: s :: c :: cs).map txD = txD f_vein :: txD s :: (c :: cs).map txD := rfl
      have cc : cut (txD f_vein :: txD s :: (c :: cs).map txD) (some 2) none = (c :: cs).map txD := by
        rw [cut_from' (by omega)]
        rfl
      have cl : ((c :: cs).map txD).length = cs.length + 1 := by rw [List.length_map, List.length_cons]
      have l3 : ¬ ((((c :: cs).map txD).length + 1 + 1 : Nat) : Int) < 3 := by omega
      have l4 : (txD f_vein :: txD s :: (c :: cs).map txD).length < 16777216 := by
        rw [List.length_cons, List.length_cons]
        simp only [List.length_cons] at hl
        omega
      have a1 : L2.atI (txD f_vein :: txD s :: (c :: cs).map txD) 1 = some (txD s) := atI_n (txD f_vein :: txD s :: (c :: cs).map txD) 1
      rw [ew, call_eq t_read_vein rfl]
      generalize (c :: cs).map txD = CW at *
      unfold stepsO at e1
      by_cases s0 : s = []
      · rw [if_pos s0] at e1
        have rv : readV s (c :: cs) = none := if_pos (.inr s0)
        have e1 : callF TAB (n + 3) k_steps_of [txD s] S = .ex x_BadText S := e1
        rw [rv]
        generalize txD s = SW at *
        simp only [f_vein] at *
        dsimp? only [d_read_vein, l3, a1, e1]
        try rfl
      rw [if_neg s0] at e1
      have ne : ¬ (c :: cs = [] ∨ s = []) := by simp [s0]
      by_cases ha : ((stepsL s).any fun i => decide (i < 0)) = true
      · rw [if_pos ha] at e1
        have rv : readV s (c :: cs) = none := by
          unfold readV
          rw [if_neg ne]
          cases cellsO (c :: cs) with
          | none => rfl
          | some ds => exact if_pos ha
        have e1 : callF TAB (n + 3) k_steps_of [txD s] S = .ex x_BadText S := e1
        rw [rv]
        generalize txD s = SW at *
        simp only [f_vein] at *
        dsimp? only [d_read_vein, l3, a1, e1]
        try rfl
      · rw [if_neg ha] at e1
        have e1 : callF TAB (n + 3) k_steps_of [txD s] S = .ok (.v (.tup (iD (stepsL s)))) S := e1
        cases hO : cellsO (c :: cs) with
        | none =>
          rw [hO] at lc
          have lc : ∀ s0 s1, lcxL [] (fLcx TAB (callF TAB (n + 3)) [2] (G.name 2) u_read_vein_1 [s0, s1, .un]) CW [] S = .ex x_BadText S := lc
          have rv : readV s (c :: cs) = none := by
            unfold readV
            rw [if_neg ne, hO]
          rw [rv]
          generalize txD s = SW at *
          generalize iD (stepsL s) = SD at *
          simp only [f_vein] at *
          dsimp? only [d_read_vein, l3, a1, e1, sl_lst, cc, lc]
          try rfl
        | some ds =>
          rw [hO] at lc
          have lc : ∀ s0 s1, lcxL [] (fLcx TAB (callF TAB (n + 3)) [2] (G.name 2) u_read_vein_1 [s0, s1, .un]) CW [] S = .ok ds S := lc
          have rv : readV s (c :: cs) = some (.tup [txD f_vein, .tup (iD (stepsL s)), .tup ds]) := by
            unfold readV
            rw [if_neg ne, hO]
            exact if_neg ha
          rw [rv]
          generalize txD s = SW at *
          generalize iD (stepsL s) = SD at *
          simp only [f_vein] at *
          dsimp? only [d_read_vein, l3, a1, e1, sl_lst, cc, lc]
          try rfl
theorem s_read_words_any (n : Nat) (S : Sto) {ws : List (List Nat)} (h : okW ws) (hne : ws ≠ []) (hl : ws.length ≤ 1000) : callF TAB (n + 5) k_read_words [.lst (ws.map txD)] S = resO (readO ws) S := by
  have zz := PySem.sizeLine_eq
  obtain ⟨w, rest, rfl⟩ : ∃ w rest, ws = w :: rest := by
    cases ws with
    | nil => exact absurd rfl hne
    | cons w rest => exact ⟨w, rest, rfl⟩
  have hw := h.2 w List.mem_cons_self
  have a0 : L2.atI (txD w :: rest.map txD) 0 = some (txD w) := atI_n (txD w :: rest.map txD) 0
  rw [List.length_cons] at hl
  by_cases hv : w = f_vein
  · subst hv
    have e := s_read_vein_any n S h (by omega)
    rw [List.map_cons] at e ⊢
    generalize rest.map txD = RW at *
    rw [call_eq t_read_words rfl]
    cases hr : readO (f_vein :: rest) with
    | none =>
      rw [hr] at e
      have e : callF TAB (n + 4) k_read_vein [.lst (txD f_vein :: RW)] S = .ex x_BadText S := e
      simp only [f_vein] at *
      dsimp? only [d_read_words, a0, e]
      try rfl
    | some d =>
      rw [hr] at e
      have e : callF TAB (n + 4) k_read_vein [.lst (txD f_vein :: RW)] S = .ok (.v d) S := e
      simp only [f_vein] at *
      dsimp? only [d_read_words, a0, e]
      try rfl
  · have okr : okW rest := ⟨by have := h.1; rw [List.length_cons] at this; omega, fun x hx => h.2 x (List.mem_cons_of_mem _ hx)⟩
    have e := s_numbers_of (n + 2) S rest okr
    rw [any_not5] at e
    have e0 : (rest.map fun w => oD (numO w)) = rest.map numD5 := rfl
    rw [e0] at e
    have cc : cut (txD w :: rest.map txD) (some 1) none = rest.map txD := by
      rw [cut_from' (by omega)]
      rfl
    have gL : TAB.gv "LENGTHS" = some (.dck (F9.map txS) [.int (3), .int (4), .int (6), .int (2), .int (3), .int (5), .int (2), .int (8), .int (4)]) := g_LENGTHS
    have re : readO (w :: rest) = (match rowB 1 1 1 w with
      | none => none
      | some row => if rest.all numS5 = true ∧ rest.length = row.length then some (.tup (txD w :: rest.map numD5)) else none) := if_neg hv
    have qv : eqR S (.v (txD w)) (.v (txD [118, 101, 105, 110])) = some false := by
      rw [eq_t hw.1 rfl]
      exact congrArg some (decide_eq_false hv)
    have il : (rest.map txD).length = rest.length := List.length_map _
    have nl : (rest.map numD5).length = rest.length := List.length_map _
    rw [List.map_cons]
    have key : ∀ (k : Nat) (row : List (Int × Int)), rowB 1 1 1 w = some row → row.length = k → (rest.length = k → callF TAB (n + 5) k_read_words [.lst (txD w :: rest.map txD)] S = if rest.all numS5 = true then .ok (.v (.tup (txD w :: rest.map numD5))) S else .ex x_BadText S) →
        (rest.length ≠ k → callF TAB (n + 5) k_read_words [.lst (txD w :: rest.map txD)] S = .ex x_BadText S) → callF TAB (n + 5) k_read_words [.lst (txD w :: rest.map txD)] S = resO (readO (w :: rest)) S := fun k row h1 h2 h3 h4 => by
      rw [re, h1]
      show _ = resO (if rest.all numS5 = true ∧ rest.length = row.length then some (.tup (txD w :: rest.map numD5)) else none) S
      rw [h2]
      by_cases hL : rest.length = k
      · rw [h3 hL]
        by_cases ha : rest.all numS5 = true
        · rw [if_pos ha, if_pos ⟨ha, hL⟩]
          rfl
        · rw [if_neg ha, if_neg fun q => ha q.1]
          rfl
      · rw [h4 hL, if_neg fun q => hL q.2]
        rfl
    by_cases hm : w ∈ F9
    · clear re
      simp only [F9, List.mem_cons, List.not_mem_nil, or_false] at hm
      rcases hm with rfl | rfl | rfl | rfl | rfl | rfl | rfl | rfl | rfl
      · exact absurd rfl hv
      · refine key 3 _ rfl rfl (fun hL => ?_) fun hL => ?_
        all_goals clear key
        all_goals generalize rest.map txD = RW at *
        all_goals generalize rest.map numD5 = RN at *
        all_goals rw [call_eq t_read_words rfl]
        all_goals simp only [f_join, f_stake, f_work, f_sell, f_part, f_give, f_dig, f_pay] at cc a0 ⊢
        · have hL' : RW.length = 3 := il.trans hL
          have nL' : RN.length = 3 := nl.trans hL
          cases ha : rest.all numS5 with
          | true =>
            rw [ha, if_neg (by decide)] at e
            rw [if_pos rfl]
            dsimp? only [d_read_words, a0, gL, F9, hL', nL', sl_lst, cc, e]
            try rfl
          | false =>
            rw [ha, if_pos (by decide)] at e
            rw [if_neg (by decide)]
            dsimp? only [d_read_words, a0, gL, F9, hL', sl_lst, cc, e]
            try rfl
        · have hL' : ¬ ((RW.length + 1 : Nat) : Int) = 4 := by omega
          dsimp? only [d_read_words, a0, gL, F9, hL']
          try rfl
      · refine key 5 _ rfl rfl (fun hL => ?_) fun hL => ?_
        all_goals clear key
        all_goals generalize rest.map txD = RW at *
        all_goals generalize rest.map numD5 = RN at *
        all_goals rw [call_eq t_read_words rfl]
        all_goals simp only [f_join, f_stake, f_work, f_sell, f_part, f_give, f_dig, f_pay] at cc a0 ⊢
        · have hL' : RW.length = 5 := il.trans hL
          have nL' : RN.length = 5 := nl.trans hL
          cases ha : rest.all numS5 with
          | true =>
            rw [ha, if_neg (by decide)] at e
            rw [if_pos rfl]
            dsimp? only [d_read_words, a0, gL, F9, hL', nL', sl_lst, cc, e]
            try rfl
          | false =>
            rw [ha, if_pos (by decide)] at e
            rw [if_neg (by decide)]
            dsimp? only [d_read_words, a0, gL, F9, hL', sl_lst, cc, e]
            try rfl
        · have hL' : ¬ ((RW.length + 1 : Nat) : Int) = 6 := by omega
          dsimp? only [d_read_words, a0, gL, F9, hL']
          try rfl
      · refine key 1 _ rfl rfl (fun hL => ?_) fun hL => ?_
        all_goals clear key
        all_goals generalize rest.map txD = RW at *
        all_goals generalize rest.map numD5 = RN at *
        all_goals rw [call_eq t_read_words rfl]
        all_goals simp only [f_join, f_stake, f_work, f_sell, f_part, f_give, f_dig, f_pay] at cc a0 ⊢
        · have hL' : RW.length = 1 := il.trans hL
          have nL' : RN.length = 1 := nl.trans hL
          cases ha : rest.all numS5 with
          | true =>
            rw [ha, if_neg (by decide)] at e
            rw [if_pos rfl]
            dsimp? only [d_read_words, a0, gL, F9, hL', nL', sl_lst, cc, e]
            try rfl
          | false =>
            rw [ha, if_pos (by decide)] at e
            rw [if_neg (by decide)]
            dsimp? only [d_read_words, a0, gL, F9, hL', sl_lst, cc, e]
            try rfl
        · have hL' : ¬ ((RW.length + 1 : Nat) : Int) = 2 := by omega
          dsimp? only [d_read_words, a0, gL, F9, hL']
          try rfl
      · refine key 2 _ rfl rfl (fun hL => ?_) fun hL => ?_
        all_goals clear key
        all_goals generalize rest.map txD = RW at *
        all_goals generalize rest.map numD5 = RN at *
        all_goals rw [call_eq t_read_words rfl]
        all_goals simp only [f_join, f_stake, f_work, f_sell, f_part, f_give, f_dig, f_pay] at cc a0 ⊢
        · have hL' : RW.length = 2 := il.trans hL
          have nL' : RN.length = 2 := nl.trans hL
          cases ha : rest.all numS5 with
          | true =>
            rw [ha, if_neg (by decide)] at e
            rw [if_pos rfl]
            dsimp? only [d_read_words, a0, gL, F9, hL', nL', sl_lst, cc, e]
            try rfl
          | false =>
            rw [ha, if_pos (by decide)] at e
            rw [if_neg (by decide)]
            dsimp? only [d_read_words, a0, gL, F9, hL', sl_lst, cc, e]
            try rfl
        · have hL' : ¬ ((RW.length + 1 : Nat) : Int) = 3 := by omega
          dsimp? only [d_read_words, a0, gL, F9, hL']
          try rfl
      · refine key 4 _ rfl rfl (fun hL => ?_) fun hL => ?_
        all_goals clear key
        all_goals generalize rest.map txD = RW at *
        all_goals generalize rest.map numD5 = RN at *
        all_goals rw [call_eq t_read_words rfl]
        all_goals simp only [f_join, f_stake, f_work, f_sell, f_part, f_give, f_dig, f_pay] at cc a0 ⊢
        · have hL' : RW.length = 4 := il.trans hL
          have nL' : RN.length = 4 := nl.trans hL
          cases ha : rest.all numS5 with
          | true =>
            rw [ha, if_neg (by decide)] at e
            rw [if_pos rfl]
            dsimp? only [d_read_words, a0, gL, F9, hL', nL', sl_lst, cc, e]
            try rfl
          | false =>
            rw [ha, if_pos (by decide)] at e
            rw [if_neg (by decide)]
            dsimp? only [d_read_words, a0, gL, F9, hL', sl_lst, cc, e]
            try rfl
        · have hL' : ¬ ((RW.length + 1 : Nat) : Int) = 5 := by omega
          dsimp? only [d_read_words, a0, gL, F9, hL']
          try rfl
      · refine key 1 _ rfl rfl (fun hL => ?_) fun hL => ?_
        all_goals clear key
        all_goals generalize rest.map txD = RW at *
        all_goals generalize rest.map numD5 = RN at *
        all_goals rw [call_eq t_read_words rfl]
        all_goals simp only [f_join, f_stake, f_work, f_sell, f_part, f_give, f_dig, f_pay] at cc a0 ⊢
        · have hL' : RW.length = 1 := il.trans hL
          have nL' : RN.length = 1 := nl.trans hL
          cases ha : rest.all numS5 with
          | true =>
            rw [ha, if_neg (by decide)] at e
            rw [if_pos rfl]
            dsimp? only [d_read_words, a0, gL, F9, hL', nL', sl_lst, cc, e]
            try rfl
          | false =>
            rw [ha, if_pos (by decide)] at e
            rw [if_neg (by decide)]
            dsimp? only [d_read_words, a0, gL, F9, hL', sl_lst, cc, e]
            try rfl
        · have hL' : ¬ ((RW.length + 1 : Nat) : Int) = 2 := by omega
          dsimp? only [d_read_words, a0, gL, F9, hL']
          try rfl
      · refine key 7 _ rfl rfl (fun hL => ?_) fun hL => ?_
        all_goals clear key
        all_goals generalize rest.map txD = RW at *
        all_goals generalize rest.map numD5 = RN at *
        all_goals rw [call_eq t_read_words rfl]
        all_goals simp only [f_join, f_stake, f_work, f_sell, f_part, f_give, f_dig, f_pay] at cc a0 ⊢
        · have hL' : RW.length = 7 := il.trans hL
          have nL' : RN.length = 7 := nl.trans hL
          cases ha : rest.all numS5 with
          | true =>
            rw [ha, if_neg (by decide)] at e
            rw [if_pos rfl]
            dsimp? only [d_read_words, a0, gL, F9, hL', nL', sl_lst, cc, e]
            try rfl
          | false =>
            rw [ha, if_pos (by decide)] at e
            rw [if_neg (by decide)]
            dsimp? only [d_read_words, a0, gL, F9, hL', sl_lst, cc, e]
            try rfl
        · have hL' : ¬ ((RW.length + 1 : Nat) : Int) = 8 := by omega
          dsimp? only [d_read_words, a0, gL, F9, hL']
          try rfl
      · refine key 3 _ rfl rfl (fun hL => ?_) fun hL => ?_
        all_goals clear key
        all_goals generalize rest.map txD = RW at *
        all_goals generalize rest.map numD5 = RN at *
        all_goals rw [call_eq t_read_words rfl]
        all_goals simp only [f_join, f_stake, f_work, f_sell, f_part, f_give, f_dig, f_pay] at cc a0 ⊢
        · have hL' : RW.length = 3 := il.trans hL
          have nL' : RN.length = 3 := nl.trans hL
          cases ha : rest.all numS5 with
          | true =>
            rw [ha, if_neg (by decide)] at e
            rw [if_pos rfl]
            dsimp? only [d_read_words, a0, gL, F9, hL', nL', sl_lst, cc, e]
            try rfl
          | false =>
            rw [ha, if_pos (by decide)] at e
            rw [if_neg (by decide)]
            dsimp? only [d_read_words, a0, gL, F9, hL', sl_lst, cc, e]
            try rfl
        · have hL' : ¬ ((RW.length + 1 : Nat) : Int) = 4 := by omega
          dsimp? only [d_read_words, a0, gL, F9, hL']
          try rfl
    · have c1 : inR S (.v (txD w)) (.v (.dck (F9.map txS) [.int (3), .int (4), .int (6), .int (2), .int (3), .int (5), .int (2), .int (8), .int (4)])) = some false := by
        show (some (getA (txS w) ((F9.map txS).zip _))).map Option.isSome = _
        rw [getA_no hm]
        rfl
      have r0 : rowB 1 1 1 w = none := by
        simp only [F9, List.mem_cons, List.not_mem_nil, or_false, not_or] at hm
        obtain ⟨h1, h2, h3, h4, h5, h6, h7, h8, h9⟩ := hm
        simp only [rowB, h1, h2, h3, h4, h5, h6, h7, h8, h9, if_false]
      rw [re, r0]
      generalize rest.map txD = RW at *
      rw [call_eq t_read_words rfl]
      dsimp? only [d_read_words, a0, qv, gL, c1]
      try rfl
theorem s_read_fact_any (n : Nat) (S : Sto) {l : List Nat} {ws : List (List Nat)} (sp : bmR .split S (.v (txD l)) [txD [32]] = some (.l (ws.map txD), S)) (hne : ws ≠ []) (h : okW ws) (hl : ws.length ≤ 1000) : callF TAB (n + 6) k_read_fact [txD l] S = resO (readO ws) S := by
  have e := s_read_words_any n S h hne hl
  have bo : bmOk .split S (.v (txD l)) = true := rfl
  rw [call_eq t_read_fact rfl]
  generalize txD l = X at *
  generalize ws.map txD = W at *
  cases hr : readO ws with
  | none =>
    rw [hr] at e
    have e : callF TAB (n + 5) k_read_words [.lst W] S = .ex x_BadText S := e
    dsimp? only [d_read_fact, bo, sp, e]
    try rfl
  | some d =>
    rw [hr] at e
    have e : callF TAB (n + 5) k_read_words [.lst W] S = .ok (.v d) S := e
    dsimp? only [d_read_fact, bo, sp, e]
    try rfl

def toWf : Fa → Wf
  | .vein ss cs => .vn (ss.map Int.toNat) (cs.map fun c => (c.1.toNat, c.2.toNat))
  | .join a b f => .num f_join [a.toNat, b.toNat, f.toNat]
  | .stake p x y u v => .num f_stake [p.toNat, x.toNat, y.toNat, u.toNat, v.toNat]
  | .work c => .num f_work [c.toNat]
  | .sell c p => .num f_sell [c.toNat, p.toNat]
  | .part c s l p => .num f_part [c.toNat, s.toNat, l.toNat, p.toNat]
  | .give c => .num f_give [c.toNat]
  | .dig p x y u v z n => .num f_dig [p.toNat, x.toNat, y.toNat, u.toNat, v.toNat, z.toNat, n.toNat]
  | .pay p q n => .num f_pay [p.toNat, q.toNat, n.toNat]
theorem nD_to {i : Int} (h : 0 ≤ i) : nD i.toNat = .int i := by
  unfold nD
  rw [Int.toNat_of_nonneg h]
theorem lt_big {n : Nat} (h : n ≤ 1000000) : n < 10 ^ 50 := Nat.lt_of_le_of_lt h (by decide)
theorem toWf_ok {w t d : Int} (hw : w ≤ 24) (ht : t ≤ 24) (hd : d ≤ 12) {f : Fa} (h : okFa w t d f) : okWf (toWf f) ∧ wfD (toWf f) = faD f := by
  have nums : ∀ (wd : List Nat) (is : List Int), (wd, is.length) ∈ KW8 → (∀ i ∈ is, 0 ≤ i ∧ i ≤ 1000000) → okWf (.num wd (is.map Int.toNat)) ∧ wfD (.num wd (is.map Int.toNat)) = .tup (txD wd :: is.map .int) := fun wd is hk hi => by
    refine ⟨⟨by rw [List.length_map]; exact hk, fun i hm => ?_⟩, ?_⟩
    · obtain ⟨j, hj, rfl⟩ := List.mem_map.mp hm
      have := hi j hj
      exact lt_big (by omega)
    · show D.tup (txD wd :: (is.map Int.toNat).map nD) = _
      rw [List.map_map]
      congr 2
      exact List.map_congr_left fun i hm => nD_to (hi i hm).1
  cases f with
  | vein ss cs =>
    obtain ⟨h1, h2, h3, h4, h5, h6⟩ := h
    refine ⟨⟨by rw [List.length_map]; omega, fun s hs => ?_, by rw [List.length_map]; omega, fun c hc => ?_⟩, ?_⟩
    · obtain ⟨s', hs', rfl⟩ := List.mem_map.mp hs
      have := h2 s' hs'
      omega
    · obtain ⟨c', hc', rfl⟩ := List.mem_map.mp hc
      have := h6 c' hc'
      exact ⟨lt_big (by dsimp only; omega), lt_big (by dsimp only; omega)⟩
    · show D.tup [txD f_vein, .tup ((ss.map Int.toNat).map nD), .tup ((cs.map fun c => (c.1.toNat, c.2.toNat)).map ncD)] = .tup [txD f_vein, .tup (ss.map .int), .tup (cs.map pD)]
      rw [List.map_map, List.map_map]
      have e1 : ss.map (nD ∘ Int.toNat) = ss.map D.int := List.map_congr_left fun s hs => nD_to (h2 s hs).1
      have e2 : cs.map (ncD ∘ fun c => (c.1.toNat, c.2.toNat)) = cs.map pD := List.map_congr_left fun c hc => by
        have := h6 c hc
        show D.tup [nD c.1.toNat, nD c.2.toNat] = _
        rw [nD_to this.1.1, nD_to this.2.1]
        rfl
      rw [e1, e2]
  | join a b f => exact nums f_join [a, b, f] (by simp [KW8]) (fun i hi => by
      unfold okFa at h
      simp only [List.mem_cons, List.not_mem_nil, or_false] at hi
      omega)
  | stake p x y u v => exact nums f_stake [p, x, y, u, v] (by simp [KW8]) (fun i hi => by
      unfold okFa at h
      simp only [List.mem_cons, List.not_mem_nil, or_false] at hi
      omega)
  | work c => exact nums f_work [c] (by simp [KW8]) (fun i hi => by
      unfold okFa at h
      simp only [List.mem_cons, List.not_mem_nil, or_false] at hi
      omega)
  | sell c p => exact nums f_sell [c, p] (by simp [KW8]) (fun i hi => by
      unfold okFa at h
      simp only [List.mem_cons, List.not_mem_nil, or_false] at hi
      omega)
  | part c s l p => exact nums f_part [c, s, l, p] (by simp [KW8]) (fun i hi => by
      unfold okFa at h
      simp only [List.mem_cons, List.not_mem_nil, or_false] at hi
      omega)
  | give c => exact nums f_give [c] (by simp [KW8]) (fun i hi => by
      unfold okFa at h
      simp only [List.mem_cons, List.not_mem_nil, or_false] at hi
      omega)
  | dig p x y u v z n => exact nums f_dig [p, x, y, u, v, z, n] (by simp [KW8]) (fun i hi => by
      unfold okFa at h
      simp only [List.mem_cons, List.not_mem_nil, or_false] at hi
      omega)
  | pay p q n => exact nums f_pay [p, q, n] (by simp [KW8]) (fun i hi => by
      unfold okFa at h
      simp only [List.mem_cons, List.not_mem_nil, or_false] at hi
      omega)
theorem wf_short {w t d : Int} (hw : w ≤ 24) (ht : t ≤ 24) (hd : d ≤ 12) {f : Fa} (h : okFa w t d f) : ∀ x ∈ wfW (toWf f), x.length ≤ 15 := by
  have nl : ∀ {i : Int}, i ≤ 1000000 → (numW i.toNat).length ≤ 7 := fun hi => numW_len (by decide : 0 < 7) (by omega)
  intro x hx
  cases f with
  | vein ss cs =>
    obtain ⟨h1, _, _, _, _, h6⟩ := h
    rcases List.mem_cons.mp (show x ∈ f_vein :: stepW (ss.map Int.toNat) :: (cs.map fun c => (c.1.toNat, c.2.toNat)).map cellW from hx) with rfl | hx
    · decide
    rcases List.mem_cons.mp hx with rfl | hx
    · unfold stepW
      split
      · decide
      · rw [List.length_map, List.length_map]
        omega
    · obtain ⟨c, hc, rfl⟩ := List.mem_map.mp hx
      obtain ⟨c0, hc0, rfl⟩ := List.mem_map.mp hc
      obtain ⟨⟨_, a⟩, _, b⟩ := h6 c0 hc0
      have l1 := nl (i := c0.1) (by omega)
      have l2 := nl (i := c0.2) (by omega)
      show (numW c0.1.toNat ++ 44 :: numW c0.2.toNat).length ≤ 15
      rw [List.length_append, List.length_cons]
      omega
  | _ =>
    rcases List.mem_cons.mp (show x ∈ _ :: List.map numW _ from hx) with rfl | hx
    · decide
    obtain ⟨i, hi, rfl⟩ := List.mem_map.mp hx
    simp only [okFa] at h
    simp only [List.mem_cons, List.not_mem_nil, or_false] at hi
    have := nl (i := (i : Int))
    rw [Int.toNat_natCast] at this
    have := this (by omega)
    omega
theorem wf_len8 {w t d : Int} {f : Fa} (h : okFa w t d f) : (wfW (toWf f)).length ≤ 20 := by
  cases f with
  | vein ss cs =>
    have := h.2.2.2.1
    simp only [toWf, wfW, List.length_cons, List.length_map]
    omega
  | _ => exact Nat.le_of_ble_eq_true rfl
theorem fact_txt {w t d : Int} (hw : w ≤ 24) (ht : t ≤ 24) (hd : d ≤ 12) {f : Fa} (h : okFa w t d f) : (TL.joinL [32] (wfW (toWf f))).length ≤ 320 := by
  have a := joinL_len (wfW (toWf f))
  have b := sum_le (k := 15) (wf_short hw ht hd h)
  have c := wf_len8 h
  have : 15 * (wfW (toWf f)).length ≤ 15 * 20 := Nat.mul_le_mul_left 15 c
  omega
theorem sm_num5 (w : List Nat) : Sm (numD5 w) (numD5 w) ∧ dp (numD5 w) ≤ 0 := by
  unfold numD5
  cases numO w with
  | none => exact ⟨.non, Nat.le_refl _⟩
  | some i => exact ⟨.int i, Nat.le_refl _⟩
theorem sms_self : ∀ {ds : List D}, (∀ d ∈ ds, Sm d d) → Sms ds ds
  | [], _ => .nil
  | d :: ds, h => .cons (h d (by simp)) (sms_self fun x hx => h x (by simp [hx]))
theorem sm_cells : ∀ {cs : List (List Nat)} {ds : List D}, cellsO cs = some ds → (∀ d ∈ ds, Sm d d ∧ dp d ≤ 1) ∧ ds.length ≤ cs.length
  | [], ds, h => by
    cases h
    exact ⟨fun _ m => (nomatch m), Nat.le_refl _⟩
  | c :: cs, ds, h => by
    rw [cellsO_cons] at h
    cases hc : cellO c with
    | none => rw [hc] at h; cases h
    | some d =>
      rw [hc] at h
      cases hs : cellsO cs with
      | none => rw [hs] at h; cases h
      | some es =>
        rw [hs] at h
        cases h
        obtain ⟨i1, i2⟩ := sm_cells hs
        refine ⟨fun x hx => ?_, by rw [List.length_cons, List.length_cons]; omega⟩
        rcases List.mem_cons.mp hx with rfl | hx
        · unfold cellO at hc
          split at hc
          · next h2 =>
            cases hc
            have l : ((splC c).map numD5).length = 2 := by rw [List.length_map]; exact h2.2
            refine ⟨.tt (by omega) (sms_self fun y hy => ?_), ?_⟩
            · obtain ⟨v, _, rfl⟩ := List.mem_map.mp hy
              exact (sm_num5 v).1
            · have : dps ((splC c).map numD5) ≤ 0 := dps_map fun v _ => (sm_num5 v).2
              simp only [dp]
              omega
          · cases hc
        · exact i1 x hx
theorem sm_ints : ∀ is : List Int, Sms (iD is) (iD is) := fun is => sms_self fun y hy => by
  obtain ⟨v, _, rfl⟩ := List.mem_map.mp hy
  exact .int v
theorem sm_readO {ws : List (List Nat)} {p : D} (h : readO ws = some p) (hw : okW ws) : Sm p p ∧ dp p ≤ 3 := by
  cases ws with
  | nil => cases h
  | cons w rest =>
    have w0 := hw.2 w List.mem_cons_self
    have hl := hw.1
    rw [List.length_cons] at hl
    have tx : Sm (txD w) (txD w) := .str _ (okT_lay w0.1)
    by_cases hv : w = f_vein
    · cases rest with
      | nil =>
        have re : readO [w] = none := by
          unfold readO
          exact if_pos hv
        rw [re] at h
        cases h
      | cons s cs =>
        have re : readO (w :: s :: cs) = readV s cs := by
          unfold readO
          exact if_pos hv
        rw [re] at h
        have s0 := hw.2 s (by simp)
        unfold readV at h
        by_cases h0 : cs = [] ∨ s = []
        · rw [if_pos h0] at h
          cases h
        rw [if_neg h0] at h
        cases hs : cellsO cs with
        | none =>
          rw [hs] at h
          cases h
        | some ds =>
          rw [hs] at h
          have h : (if ((stepsL s).any fun i => decide (i < 0)) = true then none else some (D.tup [txD f_vein, .tup (iD (stepsL s)), .tup ds])) = some p := h
          by_cases ha : ((stepsL s).any fun i => decide (i < 0)) = true
          · rw [if_pos ha] at h
            cases h
          rw [if_neg ha] at h
          cases h
          obtain ⟨i1, i2⟩ := sm_cells hs
          have sl : (iD (stepsL s)).length ≤ 640 := by
            unfold iD stepsL
            rw [List.length_map]
            split
            · exact Nat.zero_le _
            · rw [List.length_map]
              exact s0.2
          have d1 : dps (iD (stepsL s)) ≤ 0 := dps_ints _
          have d2 : dps ds ≤ 1 := dps_le fun d hd => (i1 d hd).2
          rw [List.length_cons] at hl
          rw [hv] at tx
          refine ⟨.tt (by simp) (.cons tx (.cons (.tt (by omega) (sm_ints _)) (.cons (.tt (by omega) (sms_self fun d hd => (i1 d hd).1)) .nil))), ?_⟩
          simp only [dp, dps]
          omega
    · have re : readO (w :: rest) = (match rowB 1 1 1 w with
        | none => none
        | some row => if rest.all numS5 = true ∧ rest.length = row.length then some (.tup (txD w :: rest.map numD5)) else none) := if_neg hv
      rw [re] at h
      cases hr : rowB 1 1 1 w with
      | none =>
        rw [hr] at h
        cases h
      | some row =>
        rw [hr] at h
        have h : (if rest.all numS5 = true ∧ rest.length = row.length then some (D.tup (txD w :: rest.map numD5)) else none) = some p := h
        by_cases ha : rest.all numS5 = true ∧ rest.length = row.length
        · rw [if_pos ha] at h
          cases h
          have d1 : dps (rest.map numD5) ≤ 0 := dps_map fun v _ => (sm_num5 v).2
          refine ⟨.tt (by rw [List.length_cons, List.length_map]; omega) (.cons tx (sms_self fun y hy => ?_)), ?_⟩
          · obtain ⟨v, _, rfl⟩ := List.mem_map.mp hy
            exact (sm_num5 v).1
          · simp only [dp, dps, txD]
            omega
        · rw [if_neg ha] at h
          cases h
theorem s_law_told8 (n : Nat) (S : Sto) {l : List Nat} {ws : List (List Nat)} (sp : bmR .split S (.v (txD l)) [txD [32]] = some (.l (ws.map txD), S)) (hne : ws ≠ []) (h : okW ws) (hl : ws.length ≤ 1000) : callF TAB (n + 7) k_law_told [txD l] S = .ok (.v ((readO ws).getD .non)) S := by
  have e := s_read_fact_any n S sp hne h hl
  rw [call_eq t_law_told rfl]
  generalize txD l = X at *
  cases hr : readO ws with
  | none =>
    rw [hr] at e
    have e : callF TAB (n + 6) k_read_fact [X] S = .ex x_BadText S := e
    dsimp? only [d_law_told, e, hs_two, orO, x_BadFact_BadText, x_BadNumber_BadText, x_BadText_BadText]
    try rfl
  | some d =>
    rw [hr] at e
    have e : callF TAB (n + 6) k_read_fact [X] S = .ok (.v d) S := e
    dsimp? only [d_law_told, e]
    try rfl
def OD8 : List (List Nat) := [[], [32], [118, 101, 105, 110], [118, 101, 105, 110, 32, 45, 32], [118, 101, 105, 110, 32, 48, 32, 49], [118, 101, 105, 110, 32, 48], [118, 101, 105, 110, 32, 45, 32, 49, 44, 50, 44, 51], [118, 101, 105, 110, 32, 45, 45, 32, 49, 44, 50], [118, 101, 105, 110, 32, 48, 48, 32, 49, 44], [119, 111, 114, 107], [87, 111, 114, 107, 32, 51], [118, 101, 105, 110, 32, 32, 49, 44, 50], [119, 111, 114, 107, 115, 32, 51], [119, 111, 114, 107, 32, 48, 51], [119, 111, 114, 107, 32, 51, 32], [32, 119, 111, 114, 107, 32, 51], [119, 111, 114, 107, 32, 32, 51], [119, 111, 114, 107, 32, 51, 32, 52], [103, 105, 118, 101, 32, 45, 51], [112, 97, 121, 32, 49, 32, 50], [118, 101, 105, 110, 32, 53, 32, 48, 49, 44, 50]]
theorem k08_fin (l : List Nat) (ht : okT l = true) (hl : l.length ≤ 640) : ∃ ws T, bmR .split [] (.v (txD l)) [txD [32]] = some (.l (ws.map txD), []) ∧ callF TAB 59 k_law_read [.lst (ws.map txD)] [] = .ok (.v ((readO ws).getD .non)) T ∧ callF TAB 59 k_law_told [txD l] T = .ok (.v ((readO ws).getD .non)) T ∧
    (readO ws ≠ none → callF TAB 59 k_law_same [(readO ws).getD .non, (readO ws).getD .non] T = .ok (.v (.bl true)) T) := by
  obtain ⟨ws, h1, h2, h3, h4⟩ := split_any (S := []) l ht hl
  have hwl := szW_len ws
  obtain ⟨T, e1⟩ := s_law_read 55 [] h4 h2 (by omega)
  refine ⟨ws, T, h1, by rw [e1, List.nil_append], ?_, fun hn => ?_⟩
  · obtain ⟨ws', h1', _⟩ := split_any (S := T) l ht hl
    have sp : bmR .split T (.v (txD l)) [txD [32]] = some (.l (ws.map txD), T) := by
      have e0 : ∀ S : Sto, bmR .split S (.v (txD l)) [txD [32]] = some (.l ((TL.spl [32] 0 [] l).map txD), S) := fun S => split_t (by decide) (by decide) (by omega)
      rw [e0] at h1 ⊢
      injection h1 with h1
      injection h1 with h1 _
      injection h1 with h1
      rw [h1]
    exact s_law_told8 52 T sp h2 h4 (by omega)
  · cases hr : readO ws with
    | none => exact absurd hr hn
    | some p =>
      obtain ⟨q1, q2⟩ := sm_readO hr h4
      exact s_law_same 3 (n := 55) q1 q2
theorem k08_bend {ns : List Int} {sc : D} (hs : Scr ns sc) (i : Nat) (l : List Nat) (ht : okT l = true) (hl : l.length ≤ 600) : ∃ l' : List Nat, okT l' = true ∧ l'.length ≤ l.length + 2 ∧ ∀ s1 s3 s4 s5 s6, bodyF TAB (callF TAB 59) (G.name 4) b_law_k08_1 (.int (i : Int)) [.v sc, s1, .v (txD l), s3, s4, s5, s6] [] = .ok (.next [.v sc, s1, .v (txD l'), s3, .v (.int (i : Int)), s5, s6]) [] := by
  obtain ⟨l', h1, h2, h3⟩ := s_law_bent hs (3 + (i : Int)) 0 (by omega) (by omega) l ht (by omega)
  have e := h3 57 []
  refine ⟨l', h1, h2, fun s1 s3 s4 s5 s6 => ?_⟩
  rw [bodyF_eq]
  dsimp? only [b_law_k08_1, e]
  done
theorem law_true {sc : D} {ns : List Int} (e : sc = .lst (ns.map .int) ∨ sc = .lsk (ns.map .int)) (hn : ns.length ≤ 63) : ∃ S', callF TAB lvl k_law_k08 [sc] [] = .ok (.v (.bl true)) S' := by
  have hs : Scr ns sc := ⟨hn, e⟩
  obtain ⟨w, t, d, w1, w2, t1, t2, d1, d2, es⟩ := s_law_size hs 0
  have es := es 57 []
  obtain ⟨f, okf, ef⟩ := s_law_some_fact hs 1 w t d (by omega) (by omega) (by omega) (by omega) (by omega) (by omega)
  have ef := ef 54 []
  obtain ⟨ok, ed⟩ := toWf_ok w2 t2 d2 okf
  have ew := s_law_written 58 [] (toWf f) ok
  rw [ed] at ew
  have ok0 := joinL_ok2 (wf_ok ok)
  have ln0 := fact_txt w2 t2 d2 okf
  unfold szD at ef
  generalize TL.joinL [32] (wfW (toWf f)) = t0 at *
  have c0 := s_law_draw 58 [] hs 2 20 8 (by omega) (by omega) (by omega)
  have c1 := s_law_draw 58 [] hs 2 21 21 (by omega) (by omega) (by omega)
  have c2 := s_law_draw 58 [] hs 2 22 3 (by omega) (by omega) (by omega)
  obtain ⟨v, hv, ev⟩ := pick_w (ws := OD8) (draw_lo ns 2 21 (m := 21) (by omega)) (draw_hi ns 2 21 (m := 21) (by omega))
  have okv : okT v = true ∧ v.length ≤ 320 := by
    have : ∀ a ∈ OD8, okT a = true ∧ a.length ≤ 320 := by decide
    exact this v hv
  have m0 := draw_lo ns 2 22 (m := 3) (by omega)
  have m1 := draw_hi ns 2 22 (m := 3) (by omega)
  generalize draw ns 2 22 3 = m at *
  have hm3 : m = 0 ∨ m = 1 ∨ m = 2 := by omega
  have go : ∀ l : List Nat, okT l = true → l.length ≤ 320 → ∀ s1 s3 s4 s5 s6, ∃ l' s4', okT l' = true ∧ l'.length ≤ 640 ∧ forL [] (bodyF TAB (callF TAB 59) (G.name 4) b_law_k08_1) (rangeD 0 m) [.v sc, s1, .v (txD l), s3, s4, s5, s6] [] = .ok (.next [.v sc, s1, .v (txD l'), s3, s4', s5, s6]) [] := by
    intro l hl1 hl2 s1 s3 s4 s5 s6
    rcases hm3 with rfl | rfl | rfl
    · exact ⟨l, s4, hl1, by omega, forL_nil⟩
    · obtain ⟨l1, a1, a2, a3⟩ := k08_bend hs 0 l hl1 (by omega)
      exact ⟨l1, .v (.int ((0 : Nat) : Int)), a1, by omega, by
        rw [show rangeD 0 1 = [.int ((0 : Nat) : Int)] from rfl, forL_go (.inl (a3 s1 s3 s4 s5 s6))]
        exact forL_nil⟩
    · obtain ⟨l1, a1, a2, a3⟩ := k08_bend hs 0 l hl1 (by omega)
      obtain ⟨l2, b1, b2, b3⟩ := k08_bend hs 1 l1 a1 (by omega)
      exact ⟨l2, .v (.int ((1 : Nat) : Int)), b1, by omega, by
        rw [show rangeD 0 2 = [.int ((0 : Nat) : Int), .int ((1 : Nat) : Int)] from rfl, forL_go (.inl (a3 s1 s3 s4 s5 s6)), forL_go (.inl (b3 s1 s3 _ s5 s6))]
        exact forL_nil⟩
  have hm62 : m < 1000 := by omega
  have hm63 : -1000 < m := by omega
  simp only [OD8, List.map_cons, List.map_nil] at ev
  have gov := go v okv.1 okv.2 (.v (faD f)) (.v (.lst (OD8.map txD))) .un .un .un
  have got := go t0 ok0 ln0 (.v (faD f)) (.v (.lst (OD8.map txD))) .un .un .un
  simp only [OD8, List.map_cons, List.map_nil] at gov got
  have fin : ∀ l', okT l' = true → l'.length ≤ 640 → ∃ ws T, bmR .split [] (.v (txD l')) [txD [32]] = some (.l (ws.map txD), []) ∧ callF TAB 59 k_law_read [.lst (ws.map txD)] [] = .ok (.v ((readO ws).getD .non)) T ∧ callF TAB 59 k_law_told [txD l'] T = .ok (.v ((readO ws).getD .non)) T ∧
    (readO ws ≠ none → callF TAB 59 k_law_same [(readO ws).getD .non, (readO ws).getD .non] T = .ok (.v (.bl true)) T) := k08_fin
  rw [call_eq t_law_k08 rfl]
  generalize faD f = FD at *
  by_cases h : draw ns 2 20 8 = 0
  · obtain ⟨l', s4', g1, g2, g3⟩ := gov
    obtain ⟨ws, T, x1, x2, x3, x4⟩ := fin l' g1 g2
    refine ⟨T, ?_⟩
    cases hr : readO ws with
    | none =>
      simp only [hr, Option.getD_none] at x2 x3
      dsimp? only [d_law_k08, es, ef, ew, c0, h, c1, ev, c2, g3, x1, x2, x3]
      done
    | some p =>
      have i := readO_isN (S := T) hr
      have x4 := x4 (by rw [hr]; simp)
      simp only [hr, Option.getD_some] at x2 x3 x4
      dsimp? only [d_law_k08, es, ef, ew, c0, h, c1, ev, c2, g3, x1, x2, x3, x4, i]
      done
  · obtain ⟨l', s4', g1, g2, g3⟩ := got
    obtain ⟨ws, T, x1, x2, x3, x4⟩ := fin l' g1 g2
    refine ⟨T, ?_⟩
    cases hr : readO ws with
    | none =>
      simp only [hr, Option.getD_none] at x2 x3
      dsimp? only [d_law_k08, es, ef, ew, c0, h, c2, g3, x1, x2, x3]
      done
    | some p =>
      have i := readO_isN (S := T) hr
      have x4 := x4 (by rw [hr]; simp)
      simp only [hr, Option.getD_some] at x2 x3 x4
      dsimp? only [d_law_k08, es, ef, ew, c0, h, c2, g3, x1, x2, x3, x4, i]
      done

end Pl
namespace Pl
open PySem PySem.Spec
open PyProof.Rows hiding St
open L2

theorem law_ints {A : Adr} {K : PySem.W.Frag} {M : List Addr} {H : Hp} : ∀ ns : List Int, RDs A K M H (ns.map D.int) (ns.map V.int)
  | [] => .nil
  | _ :: ns => .cons (.int _) (law_ints ns)
theorem entry {K : PySem.W.Frag} {h : Heap} {mg : Str → Option Value} {w : World} {fa0 : Addr} {Pr : Program} (X : K.In h) (G : h.Ns mainGlobals mg) (c : He.SaysT fa defs tabs w K) (cx : exB K = true) (hmg : mg "law" = some (.ref fa0)) :
    ∃ (K : PySem.W.Frag) (fd : FuncData) (sp : Sp), K.In h ∧ (∀ (s : Shared) (u : Value), BindsTo s fd ⟨[u], []⟩ [("_law_script", u)]) ∧
      (∀ (H : Hp) (a : Addr) (ns : List Int), ns.length ≤ 63 → Only H → SqL K H a (ns.map V.int) → sp [.ref a] H (fun v _ => v = .bl true) fun _ _ _ => False) ∧
      ∀ base : Heap, K.In base → base.Ns mainGlobals mg → FnOk Pr w K mg base (L2.CX Pr w) (2 * lvl) fa0 fd ["_law_script"] sp := by
  obtain ⟨fd, d⟩ := r_law_k08 (w := w) c.d
  have e0 : fa0 = (adr K w).fn k_law_k08 := by
    have := He.glo_ok X G (c.d.facts (f := .glo "law") (glo_mem (by decide +kernel)))
    rw [hmg] at this
    exact Value.ref.inj (Option.some.inj this)
  subst e0
  refine ⟨K, fd, SPf (adr K w) K (callF TAB lvl) k_law_k08, X, fun s u => ?_, fun H a ns hn _ hs => ?_, fun base _ _ => fn_def (mo X G c cx) rfl lvl d⟩
  · exact FunD.bindsA d.fun_ (ps := ["_law_script"]) (fun _ _ _ _ _ _ us hl => match us, hl with | [_], _ => rfl) s [u] rfl
  · have ends : ∀ sc : D, RDs (((adr K w).b false).w []) K [] H [sc] [.ref a] → (∃ S', callF TAB lvl k_law_k08 [sc] [] = .ok (.v (.bl true)) S') → SPf (adr K w) K (callF TAB lvl) k_law_k08 [.ref a] H (fun v _ => v = .bl true) fun _ _ _ => False := fun sc r q => by
      obtain ⟨S', q⟩ := q
      refine ⟨[], [sc], [], [], ⟨rfl, List.nodup_nil, fun i o z => by simp at z⟩, r, fun a z => by simp at z, ?_⟩
      rw [q]
      intro v H' M' _ _ r'
      cases r'
      rfl
    rcases hs with hs | hs
    · exact ends _ (.cons (.lst ⟨hs, by simp, by simp⟩ (law_ints ns)) .nil) (law_true (.inl rfl) hn)
    · exact ends _ (.cons (.lsk hs (law_ints ns)) .nil) (law_true (.inr rfl) hn)

end Pl
section
open PySem PySem.W PySem.Spec PyProof.Rows
theorem PySem.Challenge.cw_dipright_k08_facts_read_or_refused_holds : PySem.Challenge.rw_dipright_k08_facts_read_or_refused.Holds := by
  w_on; refine Pl.law_open fun said => ?_
  refine HandSHeadRun.head_any (r := OpenLaw.row PySem.Challenge.rw_dipright_k08_facts_read_or_refused) (q := view (OpenLaw.row PySem.Challenge.rw_dipright_k08_facts_read_or_refused).prog [39]) (H := Pl.hkH) (ob := Pl.obH) (M := 7100) (loose := [("DiprightError" : Str), ("BadNumber" : Str), ("BadFact" : Str), ("BadText" : Str), ("LENGTHS" : Str), ("FIGURES" : Str), ("number" : Str), ("numbers_of" : Str), ("figure" : Str), ("steps_of" : Str), ("cell_of" : Str), ("read_vein" : Str), ("read_words" : Str), ("read_fact" : Str), ("_law_draw" : Str), ("_law_same" : Str), ("_law_size" : Str), ("_law_rect" : Str), ("_law_steps" : Str), ("_law_outs" : Str), ("_law_who" : Str), ("_law_pick" : Str), ("_law_vein" : Str), ("_law_claim_fact" : Str), ("_law_fact" : Str), ("_law_dig" : Str), ("_law_pay" : Str), ("_law_bounds" : Str), ("_law_some_fact" : Str), ("_law_number" : Str), ("_law_numbers" : Str), ("_law_read_vein" : Str), ("_law_read" : Str), ("_law_written" : Str), ("_law_bent" : Str), ("_law_told" : Str)]) (d := HandSHeadRun.topDef (OpenLaw.row PySem.Challenge.rw_dipright_k08_facts_read_or_refused).prog 39) (kwd := []) (fun s => Pl.obH_eq s)
    (by kernel_rfl) (fun s => by kernel_rfl) Pl.run (by kernel_rfl) (by kernel_rfl) (by kernel_rfl) (by rfl) (by first | assumption | decide +kernel) Pl.law_fine Pl.law_bare ?hw ?hc
  case hw => w_witness2
  case hc =>
    refine Pl.walk_w (lw := PySem.Challenge.rw_dipright_k08_facts_read_or_refused) (nm := "_law_script") (kk := 2 * Pl.lvl) rfl (by kernel_rfl) ⟨rfl, by decide, by decide⟩ ?F
    intro w mg fa h Y G hmg0
    obtain ⟨K, KX, c⟩ := Y
    have hmg : mg ("law" : PySem.Str) = some (.ref fa) := by
      have e : (HandSHeadRun.topDef (OpenLaw.row PySem.Challenge.rw_dipright_k08_facts_read_or_refused).prog 39).name = ("law" : PySem.Str) := by kernel_rfl
      rw [← e]
      exact hmg0
    exact Pl.entry KX G c.t c.more hmg
end
