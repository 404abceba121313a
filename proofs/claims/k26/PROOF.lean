import PyProof.Rows.All
import HandS.ForMost
import HandS.Words
import HandS.Ends
import HandS.Zip
import HandS.NoneIn
import HandS.Deep
import HandS.TupAny
import HandS.IsInst
import HandS.Text
import HandS.AnyAll
import KE.SortData
import HandS.Style
import KE.KUnpackStar
import PyProof.ReprRoads
import HandS.More
import HandS.HeadNt
import HandS.RaiseMore
import KE.GoesEnumKw
import HandS.SortKw
import HandS.Set
import HandS.SetFor
import HandS.Strs
import HandS.HeadHook4
import KE.KStateDown
import HandS.Head0
import HandS.Head1
import HandS.Head2
import HandS.HeadEnd
import PySem.Challenge.RW_worktwin_k26_claims_or_not
set_option autoImplicit false
/-! Wt.Core: Python data as trees, primitives on them, a combinator language over frames of slots. -/
namespace Wt
open PySem

/-- data as trees; a list is its items -/
inductive D where
  | non | bl (b : Bool) | int (i : Int) | str (s : Str)
  | tup (ds : List D) | lst (ds : List D) | dct (kvs : List (D × D)) | set (ds : List D) | fn (x : Str)

instance : Inhabited D := ⟨.non⟩

/-! ### equality, order -/
mutual
def eqv : D → D → Bool
  | .non, .non => true
  | .bl a, .bl b => a == b
  | .bl a, .int j => (if a then 1 else 0) == j
  | .int i, .bl b => i == (if b then 1 else 0)
  | .int i, .int j => i == j
  | .str x, .str y => x == y
  | .tup xs, .tup ys => eqvs xs ys
  | .lst xs, .lst ys => eqvs xs ys
  | _, _ => false
def eqvs : List D → List D → Bool
  | [], [] => true
  | x :: xs, y :: ys => eqv x y && eqvs xs ys
  | _, _ => false
end
mutual
/-- data that == is known of: no dict, set, function within -/
def plain : D → Bool
  | .non | .bl _ | .int _ | .str _ => true
  | .tup xs | .lst xs => plains xs
  | _ => false
def plains : List D → Bool
  | [] => true
  | x :: xs => plain x && plains xs
end
mutual
def depth : D → Nat
  | .tup xs | .lst xs => depths xs + 1
  | _ => 0
def depths : List D → Nat
  | [] => 0
  | x :: xs => max (depth x) (depths xs)
end
def shaped (d : D) : Bool := plain d && decide (depth d ≤ 40)

mutual
/-- x < y, where it is known -/
def lt? : D → D → Option Bool
  | .int i, .int j => some (decide (i < j))
  | .str x, .str y => some (decide (x.cps.toList < y.cps.toList))
  | .tup xs, .tup ys => lts? xs ys
  | .lst xs, .lst ys => lts? xs ys
  | _, _ => none
def lts? : List D → List D → Option Bool
  | [], [] => some false
  | [], _ :: _ => some true
  | _ :: _, [] => some false
  | x :: xs, y :: ys => if eqv x y then lts? xs ys else lt? x y
end

/-! ### results -/
structure RV where
  d : D
  fr : Bool
/-- a slot of a frame: no value; a value that stays as it is; a list that only this name holds; a list lent by the caller; one that is walked -/
inductive Sl where
  | no | fz (d : D) | ow (d : D) | ln (d : D) | lk (d : D) (l : Bool)
abbrev Stt := List Sl
structure Exn where
  cls : Str
  arg : D
inductive R (α : Type) where
  | ok (a : α) (s : Stt)
  | ex (e : Exn) (s : Stt)
  | bad
def R.bind {α β : Type} (r : R α) (f : α → Stt → R β) : R β :=
  match r with
  | .ok a s => f a s
  | .ex e s => .ex e s
  | .bad => .bad
/-- what a def tells: its value (new and its own, or not), and what became of the lists that were lent -/
inductive Out where
  | ok (d : D) (fr : Bool) (refs : List D)
  | ex (e : Exn) (refs : List D)
  | bad
inductive Fl where
  | nx | rt (v : RV) | bk | ct
abbrev Ex := Stt → R RV
abbrev Te := Stt → R Bool
abbrev Sm := Stt → R Fl

def Sl.d? : Sl → Option D
  | .no => none
  | .fz d | .ow d | .ln d | .lk d _ => some d
/-- the content of an own or lent list -/
def Sl.own? : Sl → Option D
  | .ow d | .ln d => some d
  | _ => none
def Sl.put (d : D) : Sl → Sl
  | .ow _ => .ow d
  | .ln _ => .ln d
  | s => s

/-! ### expressions -/
/-- an argument: an expression's value (shared from now on), or the list that a slot holds, looked at -/
inductive Arg where
  | v (F : Ex)
  | s (i : Nat)
inductive Pk where
  | v (d : D)
  | s (i : Nat)
def Pk.res (σ : Stt) : Pk → Option D
  | .v d => some d
  | .s i => (σ[i]?).bind Sl.d?
def fArg : Arg → Stt → R Pk
  | .v F, σ => (F σ).bind fun r σ1 => .ok (.v r.d) σ1
  | .s i, σ => match (σ[i]?).bind Sl.d? with
    | some _ => .ok (.s i) σ
    | none => .bad
def fArgs : List Arg → Stt → R (List Pk)
  | [], σ => .ok [] σ
  | a :: as, σ => (fArg a σ).bind fun p σ1 => (fArgs as σ1).bind fun ps σ2 => .ok (p :: ps) σ2
def resAll (σ : Stt) : List Pk → Option (List D)
  | [] => some []
  | p :: ps => match p.res σ, resAll σ ps with
    | some d, some ds => some (d :: ds)
    | _, _ => none
/-- a built-in upon values -/
def fPrim (p : List D → Option RV) (as : List Arg) : Ex := fun σ => (fArgs as σ).bind fun ps σ1 =>
  match resAll σ1 ps with
  | some ds => match p ds with
    | some r => .ok r σ1
    | none => .bad
  | none => .bad
def fC (d : D) : Ex := fun σ => .ok ⟨d, false⟩ σ
def fVar (i : Nat) : Ex := fun σ => match σ[i]? with
  | some (.fz d) => .ok ⟨d, false⟩ σ
  | some (.ow d) => .ok ⟨d, false⟩ (σ.set i (.fz d))
  | _ => .bad
def dsOf : List Ex → Stt → R (List D)
  | [], σ => .ok [] σ
  | F :: Fs, σ => (F σ).bind fun r σ1 => (dsOf Fs σ1).bind fun ds σ2 => .ok (r.d :: ds) σ2
def fTup (Fs : List Ex) : Ex := fun σ => (dsOf Fs σ).bind fun ds σ1 => if ds.length ≤ sizeLine then .ok ⟨.tup ds, false⟩ σ1 else .bad
def fLst (Fs : List Ex) : Ex := fun σ => (dsOf Fs σ).bind fun ds σ1 => if ds.length ≤ sizeLine then .ok ⟨.lst ds, true⟩ σ1 else .bad
def fIf (c : Te) (a b : Ex) : Ex := fun σ => (c σ).bind fun t σ1 => if t then a σ1 else b σ1
/-- and, or, not as values: of truths -/
def fAnd (a b : Ex) : Ex := fun σ => (a σ).bind fun r σ1 => match r.d with
  | .bl true => b σ1
  | .bl false => .ok ⟨.bl false, false⟩ σ1
  | _ => .bad
def fOr (a b : Ex) : Ex := fun σ => (a σ).bind fun r σ1 => match r.d with
  | .bl true => .ok ⟨.bl true, false⟩ σ1
  | .bl false => b σ1
  | _ => .bad
def fNot (a : Te) : Ex := fun σ => (a σ).bind fun t σ1 => .ok ⟨.bl (!t), false⟩ σ1
/-- tests -/
def truth : D → Option Bool
  | .non => some false
  | .bl b => some b
  | .int i => some (i != 0)
  | .str x => if x.length ≤ sizeLine then some ((x.length : Int) != 0) else none
  | .tup ds | .lst ds => some !ds.isEmpty
  | _ => none
def tVal (a : Ex) : Te := fun σ => (a σ).bind fun r σ1 => match truth r.d with
  | some t => .ok t σ1
  | none => .bad
def tBl (a : Ex) : Te := fun σ => (a σ).bind fun r σ1 => match r.d with
  | .bl t => .ok t σ1
  | _ => .bad
def tAnd (a b : Te) : Te := fun σ => (a σ).bind fun t σ1 => if t then b σ1 else .ok false σ1
def tOr (a b : Te) : Te := fun σ => (a σ).bind fun t σ1 => if t then .ok true σ1 else b σ1
def tNot (a : Te) : Te := fun σ => (a σ).bind fun t σ1 => .ok (!t) σ1
/-- a op b op' c -/
def fChain (p q : List D → Option RV) (a b c : Ex) : Ex := fun σ => (a σ).bind fun x σ1 => (b σ1).bind fun y σ2 =>
  match p [x.d, y.d] with
  | some ⟨.bl true, false⟩ => (c σ2).bind fun z σ3 => match q [y.d, z.d] with
    | some r => .ok r σ3
    | none => .bad
  | some ⟨.bl false, false⟩ => .ok ⟨.bl false, false⟩ σ2
  | _ => .bad

/-! ### calls of defs -/
def putRefs : List Pk → List D → Stt → Option Stt
  | [], [], σ => some σ
  | .v _ :: ps, ds, σ => putRefs ps ds σ
  | .s i :: ps, d :: ds, σ => putRefs ps ds (σ.modify i (Sl.put d))
  | _, _, _ => none
def ownAll (σ : Stt) : List Pk → Bool
  | [] => true
  | .v _ :: ps => ownAll σ ps
  | .s i :: ps => ((σ[i]?).bind Sl.own?).isSome && ownAll σ ps
def fCall (G : List D → Out) (as : List Arg) : Ex := fun σ => (fArgs as σ).bind fun ps σ1 =>
  if ownAll σ1 ps then
    match resAll σ1 ps with
    | some ds => match G ds with
      | .ok d fr refs => match putRefs ps refs σ1 with
        | some σ2 => .ok ⟨d, fr⟩ σ2
        | none => .bad
      | .ex _ _ => .bad
      | .bad => .bad
    | none => .bad
  else .bad

/-! ### targets, what is walked -/
inductive Tg where
  | nm (i : Nat)
  | tp (ts : List Tg)
mutual
def Tg.put : Tg → D → Stt → Option Stt
  | .nm i, d, σ => match σ[i]? with
    | some .no | some (.fz _) | some (.ow _) => some (σ.set i (.fz d))
    | _ => none
  | .tp ts, .tup ds, σ => Tg.puts ts ds σ
  | .tp ts, .lst ds, σ => Tg.puts ts ds σ
  | _, _, _ => none
def Tg.puts : List Tg → List D → Stt → Option Stt
  | [], [], σ => some σ
  | t :: ts, d :: ds, σ => match Tg.put t d σ with
    | some σ1 => Tg.puts ts ds σ1
    | none => none
  | _, _, _ => none
end
/-- what is walked: its items, and the slot that is locked meanwhile -/
inductive It where
  | ex (F : Ex)
  | sl (i : Nat)
  | rng (F : Ex)
  | rng2 (F G : Ex)
  | enum (F : Ex)
  | zip (F G : Ex)
def rangeD (a b : Int) : List D := (List.range (b - a).toNat).map fun (k : Nat) => .int (a + k)
def enumD (k : Nat) : List D → List D
  | [] => []
  | d :: ds => .tup [.int (k : Int), d] :: enumD (k + 1) ds
def zipD : List D → List D → List D
  | d :: ds, e :: es => .tup [d, e] :: zipD ds es
  | _, _ => []
def itemsOf : D → Option (List D)
  | .tup ds | .lst ds => some ds
  | _ => none
def small (i : Int) : Bool := decide (-(2 ^ 62) ≤ i) && decide (i < 2 ^ 62)
def It.run : It → Stt → R (List D)
  | .ex F, σ => (F σ).bind fun r σ1 => match itemsOf r.d with
    | some ds => .ok ds σ1
    | none => .bad
  | .sl i, σ => match σ[i]? with
    | some (.fz d) => match itemsOf d with
      | some ds => .ok ds σ
      | none => .bad
    | some (.ow (.lst ds)) => .ok ds (σ.set i (.lk (.lst ds) false))
    | some (.ln (.lst ds)) => .ok ds (σ.set i (.lk (.lst ds) true))
    | some (.lk (.lst ds) _) => .ok ds σ
    | _ => .bad
  | .rng F, σ => (F σ).bind fun r σ1 => match r.d with
    | .int b => if small b then .ok (rangeD 0 b) σ1 else .bad
    | _ => .bad
  | .rng2 F G, σ => (F σ).bind fun r σ1 => (G σ1).bind fun q σ2 => match r.d, q.d with
    | .int a, .int b => if small a && small b then .ok (rangeD a b) σ2 else .bad
    | _, _ => .bad
  | .enum F, σ => (F σ).bind fun r σ1 => match r.d with
    | .lst ds => .ok (enumD 0 ds) σ1
    | _ => .bad
  | .zip F G, σ => (F σ).bind fun r σ1 => (G σ1).bind fun q σ2 => match r.d, q.d with
    | .lst ds, .lst es => .ok (zipD ds es) σ2
    | .tup ds, .tup es => .ok (zipD ds es) σ2
    | _, _ => .bad
/-- behind the walk: the lock is taken off -/
def It.off : It → Stt → Stt → Stt
  | .sl i, σ, σ1 => match σ[i]?, σ1[i]? with
    | some (.ow _), some (.lk d false) => σ1.set i (.ow d)
    | some (.ln _), some (.lk d true) => σ1.set i (.ln d)
    | _, _ => σ1
  | _, _, σ1 => σ1

/-! ### comprehensions -/
def wipeS (σ : Stt) : List Nat → Stt
  | [] => σ
  | i :: is => (wipeS σ is).set i .no
/-- the slots of a block's own names: free of lists of one's own -/
def clear (σ : Stt) : List Nat → Bool
  | [] => true
  | i :: is => (match σ[i]? with | some .no | some (.fz _) => true | _ => false) && clear σ is
def unwipe (σ0 σ : Stt) : List Nat → Stt
  | [] => σ
  | i :: is => match σ0[i]? with
    | some x => (unwipe σ0 σ is).set i x
    | none => unwipe σ0 σ is
def tAll : List Te → Te
  | [] => fun σ => .ok true σ
  | t :: ts => fun σ => (t σ).bind fun b σ1 => if b then tAll ts σ1 else .ok false σ1
def lcLoop (own : List Nat) (tg : Tg) (ifs : Te) (elt : Ex) : List D → List D → Stt → R (List D)
  | [], acc, σ => .ok acc σ
  | d :: ds, acc, σ => match tg.put d (wipeS σ own) with
    | none => .bad
    | some σ1 => (ifs σ1).bind fun t σ2 => if t then (elt σ2).bind fun r σ3 => if acc.length < sizeLine then lcLoop own tg ifs elt ds (acc ++ [r.d]) σ3 else .bad
        else lcLoop own tg ifs elt ds acc σ2
def fLc (it : It) (own : List Nat) (tg : Tg) (ifs : Te) (elt : Ex) : Ex := fun σ => (it.run σ).bind fun ds σ1 =>
  if clear σ1 own then (lcLoop own tg ifs elt ds [] σ1).bind fun acc σ2 => .ok ⟨.lst acc, true⟩ (it.off σ (unwipe σ1 σ2 own)) else .bad

/-! ### statements -/
def storeS (i : Nat) (r : RV) (σ : Stt) : Option Stt := match σ[i]? with
  | some .no | some (.fz _) | some (.ow _) => some (σ.set i (match r.fr, r.d with | true, .lst ds => .ow (.lst ds) | _, d => .fz d))
  | _ => none
def sSet (i : Nat) (F : Ex) : Sm := fun σ => (F σ).bind fun r σ1 => match storeS i r σ1 with
  | some σ2 => .ok .nx σ2
  | none => .bad
/-- a, b, .. = x, y, .. : all values first, then the names -/
def rvsOf : List Ex → Stt → R (List RV)
  | [], σ => .ok [] σ
  | F :: Fs, σ => (F σ).bind fun r σ1 => (rvsOf Fs σ1).bind fun rs σ2 => .ok (r :: rs) σ2
def storesS : List Nat → List RV → Stt → Option Stt
  | [], [], σ => some σ
  | i :: is, r :: rs, σ => match storeS i r σ with
    | some σ1 => storesS is rs σ1
    | none => none
  | _, _, _ => none
def sPar (is : List Nat) (Fs : List Ex) : Sm := fun σ => (rvsOf Fs σ).bind fun rs σ1 => match storesS is rs σ1 with
  | some σ2 => .ok .nx σ2
  | none => .bad
def sUnp (tg : Tg) (F : Ex) : Sm := fun σ => (F σ).bind fun r σ1 => match tg.put r.d σ1 with
  | some σ2 => .ok .nx σ2
  | none => .bad
def sSeq (a b : Sm) : Sm := fun σ => (a σ).bind fun f σ1 => match f with
  | .nx => b σ1
  | f => .ok f σ1
def sNil : Sm := fun σ => .ok .nx σ
def sIf (c : Te) (a b : Sm) : Sm := fun σ => (c σ).bind fun t σ1 => if t then a σ1 else b σ1
def sRet (F : Ex) : Sm := fun σ => (F σ).bind fun r σ1 => .ok (.rt r) σ1
def sRetN : Sm := fun σ => .ok (.rt ⟨.non, false⟩) σ
/-- return name: an own list goes out as one's own -/
def sRetV (i : Nat) : Sm := fun σ => match σ[i]? with
  | some (.fz d) => .ok (.rt ⟨d, false⟩) σ
  | some (.ow d) => .ok (.rt ⟨d, true⟩) (σ.set i .no)
  | _ => .bad
def forLoop (tg : Tg) (body : Sm) : List D → Stt → R Fl
  | [], σ => .ok .nx σ
  | d :: ds, σ => match tg.put d σ with
    | none => .bad
    | some σ1 => (body σ1).bind fun f σ2 => match f with
      | .nx => forLoop tg body ds σ2
      | .ct => forLoop tg body ds σ2
      | .bk => .ok .nx σ2
      | .rt v => .ok (.rt v) σ2
def sFor (it : It) (tg : Tg) (body : Sm) : Sm := fun σ => (it.run σ).bind fun ds σ1 => (forLoop tg body ds σ1).bind fun f σ2 => .ok f (it.off σ σ2)
def sExpr (F : Ex) : Sm := fun σ => (F σ).bind fun _ σ1 => .ok .nx σ1
def sBk : Sm := fun σ => .ok .bk σ
def sCt : Sm := fun σ => .ok .ct σ
/-- a method that changes an own list: m content args = the content behind it, its value -/
def fMut (i : Nat) (m : List D → List D → Option (List D × D)) (Fs : List Ex) : Ex := fun σ => (dsOf Fs σ).bind fun ds σ1 =>
  match (σ1[i]?).bind Sl.own? with
  | some (.lst xs) => match m xs ds with
    | some (ys, d) => if ys.length ≤ sizeLine then .ok ⟨d, false⟩ (σ1.modify i (Sl.put (.lst ys))) else .bad
    | none => .bad
  | _ => .bad
/-- the place of an index -/
def atIx (n : Nat) (k : Int) : Option Nat :=
  if 0 ≤ k then (if k < n then some k.toNat else none) else (if 0 ≤ k + n then some (k + n).toNat else none)
def mSet : List D → List D → Option (List D × D)
  | xs, [.int k, v] => (atIx xs.length k).map fun j => (xs.set j v, .non)
  | _, _ => none
def mAppend : List D → List D → Option (List D × D)
  | xs, [v] => some (xs ++ [v], .non)
  | _, _ => none
/-- x[e] = value: the value first -/
def sPut (i : Nat) (ix val : Ex) : Sm := fun σ => (val σ).bind fun v σ1 => (ix σ1).bind fun k σ2 =>
  match (σ2[i]?).bind Sl.own? with
  | some (.lst xs) => match mSet xs [k.d, v.d] with
    | some (ys, _) => .ok .nx (σ2.modify i (Sl.put (.lst ys)))
    | none => .bad
  | _ => .bad

/-! ### a def -/
def refsOf : List Bool → Stt → Option (List D)
  | [], _ => some []
  | _ :: _, [] => none
  | true :: ms, s :: σ => match s with
    | .ln d => (refsOf ms σ).map (d :: ·)
    | _ => none
  | false :: ms, _ :: σ => refsOf ms σ
def startS : List Bool → List D → Nat → Option Stt
  | [], [], n => some (List.replicate n .no)
  | true :: ms, d :: ds, n => match d with
    | .lst xs => (startS ms ds n).map (.ln (.lst xs) :: ·)
    | _ => none
  | false :: ms, d :: ds, n => (startS ms ds n).map (.fz d :: ·)
  | _, _, _ => none
/-- a def of these parameters (true: lent), so many further names, by its body -/
def fDef (ms : List Bool) (more : Nat) (body : Sm) : List D → Out := fun ds => match startS ms ds more with
  | none => .bad
  | some σ => match body σ with
    | .ok f σ1 => match refsOf ms σ1 with
      | none => .bad
      | some rs => match f with
        | .nx => .ok .non false rs
        | .rt v => .ok v.d v.fr rs
        | _ => .bad
    | .ex e σ1 => match refsOf ms σ1 with
      | none => .bad
      | some rs => .ex e rs
    | .bad => .bad
end Wt
set_option autoImplicit false
set_option Elab.async false
set_option linter.all false
set_option maxRecDepth 100000
/-! Wt.Sound: how trees stand in the abstract heap; the frame of slots; the reading of a combinator. -/
namespace Wt
open PySem PySem.Spec PyProof.Rows L2

/-! ### trees in the heap -/
def kD : Key → D
  | .inl i => .int i
  | .inr x => .str x
/-- what never changes -/
def imm : HO → Prop
  | .tup _ => True
  | .frz _ _ => True
  | _ => False
abbrev As := Addr → Prop
section
variable (K : PySem.W.Frag) (mg : Str → Option Value)
mutual
/-- the value holds the tree; no list within stands at an address of O -/
inductive Rep (O : As) (H : Hp) : V → D → Prop
  | non : Rep O H .non .non
  | bl (b : Bool) : Rep O H (.bl b) (.bl b)
  | int (i : Int) : Rep O H (.int i) (.int i)
  | str (x : Str) : Rep O H (.str x) (.str x)
  | tup {a : Addr} {xs : List V} {ds : List D} : SqT K H a xs → RepA O H xs ds → Rep O H (.ref a) (.tup ds)
  | lst {a : Addr} {xs : List V} {ds : List D} : ¬ O a → Rd H a (.lst xs) → RepA O H xs ds → Rep O H (.ref a) (.lst ds)
  | lstW {a : Addr} {xs : List V} {ds : List D} {o : Obj} {its : Array Value} {n : Nat} : K.lookup a = some o → o.cls = .type "list" → o.dict = none → o.data = .seq its n → its.size ≤ sizeLine → Vals xs its.toList → RepA O H xs ds → Rep O H (.ref a) (.lst ds)
  | dct {a : Addr} {kvs : List (Key × V)} {kds : List (D × D)} : ¬ O a → Rd H a (.dK kvs) → kds.map (·.1) = kvs.map (fun p => kD p.1) → RepA O H (kvs.map (·.2)) (kds.map (·.2)) → Rep O H (.ref a) (.dct kds)
  | fn {f : Addr} {x : Str} : mg x = some (.ref f) → Rep O H (.ref f) (.fn x)
inductive RepA (O : As) (H : Hp) : List V → List D → Prop
  | nil : RepA O H [] []
  | cons {v : V} {vs : List V} {d : D} {ds : List D} : Rep O H v d → RepA O H vs ds → RepA O H (v :: vs) (d :: ds)
end
end

section
variable {K : PySem.W.Frag} {mg : Str → Option Value} {O O' : As} {H H' : Hp}
/-- what a tree leans on stays -/
structure Stay (O : As) (H : Hp) (O' : As) (H' : Hp) : Prop where
  o : ∀ a x, O' a → H a = some x → O a
  k : ∀ a x, H a = some x → (imm x ∨ ¬ O a) → H' a = some x
theorem Stay.refl : Stay O H O H := ⟨fun _ _ h _ => h, fun _ _ h _ => h⟩
theorem Stay.rd {a : Addr} {u : HO} (st : Stay O H O' H') (h : Rd H a u) (i : imm u ∨ ¬ O a) : Rd H' a u := by
  rcases h with h | ⟨o, h⟩
  · exact .inl (st.k _ _ h i)
  · exact .inr ⟨o, st.k _ _ h (.inl trivial)⟩
theorem rd_some {a : Addr} {u : HO} (h : Rd H a u) : ∃ x, H a = some x := by
  rcases h with h | ⟨o, h⟩
  · exact ⟨_, h⟩
  · exact ⟨_, h⟩
theorem Stay.sqT {a : Addr} {xs : List V} (st : Stay O H O' H') (h : SqT K H a xs) : SqT K H' a xs := by
  rcases h with h | h
  · exact .inl (st.rd h (.inl trivial))
  · exact .inr h
mutual
theorem Rep.stay (st : Stay O H O' H') : ∀ {v : V} {d : D}, Rep K mg O H v d → Rep K mg O' H' v d
  | _, _, .non => .non
  | _, _, .bl b => .bl b
  | _, _, .int i => .int i
  | _, _, .str x => .str x
  | _, _, .tup h r => .tup (st.sqT h) (RepA.stay st r)
  | _, _, .lst n h r => .lst (fun o => let ⟨x, e⟩ := rd_some h; n (st.o _ x o e)) (st.rd h (.inr n)) (RepA.stay st r)
  | _, _, .lstW a b c d e f r => .lstW a b c d e f (RepA.stay st r)
  | _, _, .dct n h k r => .dct (fun o => let ⟨x, e⟩ := rd_some h; n (st.o _ x o e)) (st.rd h (.inr n)) k (RepA.stay st r)
  | _, _, .fn h => .fn h
theorem RepA.stay (st : Stay O H O' H') : ∀ {vs : List V} {ds : List D}, RepA K mg O H vs ds → RepA K mg O' H' vs ds
  | _, _, .nil => .nil
  | _, _, .cons h t => .cons (Rep.stay st h) (RepA.stay st t)
end
theorem Rep.weak {v : V} {d : D} (h : Rep K mg O H v d) (ho : ∀ a, O' a → O a) : Rep K mg O' H v d := h.stay ⟨fun a _ o _ => ho a o, fun _ _ h _ => h⟩
theorem RepA.weak {vs : List V} {ds : List D} (h : RepA K mg O H vs ds) (ho : ∀ a, O' a → O a) : RepA K mg O' H vs ds := h.stay ⟨fun a _ o _ => ho a o, fun _ _ h _ => h⟩
theorem RepA.length : ∀ {vs : List V} {ds : List D}, RepA K mg O H vs ds → vs.length = ds.length
  | _, _, .nil => rfl
  | _, _, .cons _ t => by rw [List.length_cons, List.length_cons, RepA.length t]
theorem RepA.append : ∀ {vs ws : List V} {ds es : List D}, RepA K mg O H vs ds → RepA K mg O H ws es → RepA K mg O H (vs ++ ws) (ds ++ es)
  | _, _, _, _, .nil, h => h
  | _, _, _, _, .cons r t, h => .cons r (RepA.append t h)
theorem RepA.get : ∀ {vs : List V} {ds : List D} {i : Nat} {d : D}, RepA K mg O H vs ds → ds[i]? = some d → ∃ v, vs[i]? = some v ∧ Rep K mg O H v d
  | _, _, _, _, .nil, e => by simp at e
  | _, _, 0, _, .cons r _, e => by simp at e; subst e; exact ⟨_, rfl, r⟩
  | _, _, i + 1, _, .cons _ t, e => by
    obtain ⟨v, h1, h2⟩ := RepA.get (i := i) t (by simpa using e)
    exact ⟨v, by simpa using h1, h2⟩
theorem RepA.getV : ∀ {vs : List V} {ds : List D} {i : Nat} {v : V}, RepA K mg O H vs ds → vs[i]? = some v → ∃ d, ds[i]? = some d ∧ Rep K mg O H v d
  | _, _, _, _, .nil, e => by simp at e
  | _, _, 0, _, .cons r _, e => by simp at e; subst e; exact ⟨_, rfl, r⟩
  | _, _, i + 1, _, .cons _ t, e => by
    obtain ⟨v, h1, h2⟩ := RepA.getV (i := i) t (by simpa using e)
    exact ⟨v, by simpa using h1, h2⟩
theorem RepA.set {v : V} {d : D} (r : Rep K mg O H v d) : ∀ {vs : List V} {ds : List D} (i : Nat), RepA K mg O H vs ds → RepA K mg O H (vs.set i v) (ds.set i d)
  | _, _, _, .nil => .nil
  | _, _, 0, .cons _ t => .cons r t
  | _, _, i + 1, .cons q t => .cons q (RepA.set r i t)
theorem RepA.take : ∀ {vs : List V} {ds : List D} (n : Nat), RepA K mg O H vs ds → RepA K mg O H (vs.take n) (ds.take n)
  | _, _, 0, _ => .nil
  | _, _, _ + 1, .nil => .nil
  | _, _, n + 1, .cons r t => .cons r (RepA.take n t)
theorem RepA.drop : ∀ {vs : List V} {ds : List D} (n : Nat), RepA K mg O H vs ds → RepA K mg O H (vs.drop n) (ds.drop n)
  | _, _, 0, r => r
  | _, _, _ + 1, .nil => .nil
  | _, _, n + 1, .cons _ t => RepA.drop n t
theorem RepA.reverse : ∀ {vs : List V} {ds : List D}, RepA K mg O H vs ds → RepA K mg O H vs.reverse ds.reverse
  | _, _, .nil => .nil
  | _, _, .cons r t => by
    rw [List.reverse_cons, List.reverse_cons]
    exact (RepA.reverse t).append (.cons r .nil)

/-- a list that stands at p, whose items hold the trees -/
def OwnC (K : PySem.W.Frag) (mg : Str → Option Value) (O : As) (H : Hp) (p : Addr) (d : D) : Prop := ∃ xs ds, d = .lst ds ∧ H p = some (.lst xs) ∧ RepA K mg O H xs ds
/-- a value that is looked at: it may itself be a list that someone owns -/
inductive RepT (K : PySem.W.Frag) (mg : Str → Option Value) (O : As) (H : Hp) : V → D → Prop
  | rep {v : V} {d : D} : Rep K mg O H v d → RepT K mg O H v d
  | own {p : Addr} {d : D} : OwnC K mg O H p d → RepT K mg O H (.ref p) d
inductive RepTA (K : PySem.W.Frag) (mg : Str → Option Value) (O : As) (H : Hp) : List V → List D → Prop
  | nil : RepTA K mg O H [] []
  | cons {v : V} {vs : List V} {d : D} {ds : List D} : RepT K mg O H v d → RepTA K mg O H vs ds → RepTA K mg O H (v :: vs) (d :: ds)
theorem RepA.top : ∀ {vs : List V} {ds : List D}, RepA K mg O H vs ds → RepTA K mg O H vs ds
  | _, _, .nil => .nil
  | _, _, .cons r t => .cons (.rep r) (RepA.top t)
end

/-! ### frames -/
structure Fm where
  B : As
  H0 : Hp
  L : As
  A : Nat → Addr
  P : Nat → Option Addr
  xw : Exn → Stt → Prop
def Fm.add (Γ : Fm) (p : Addr) : Fm := { Γ with B := fun a => Γ.B a ∨ a = p }
/-- the addresses of the lists that slots hold alone -/
def ownS (τ : Stt) (σ : L2.St) : As := fun a => ∃ (i : Nat) (d : D), (τ[i]? = some (Sl.ow d) ∨ τ[i]? = some (Sl.lk d false)) ∧ σ[i]? = some (some (V.ref a))
/-- .. that may be changed here -/
def mutS (τ : Stt) (σ : L2.St) : As := fun a => ∃ (i : Nat) (d : D), (τ[i]? = some (Sl.ow d) ∨ τ[i]? = some (Sl.ln d)) ∧ σ[i]? = some (some (V.ref a))
def Fm.O (Γ : Fm) (τ : Stt) (σ : L2.St) : As := fun a => Γ.B a ∨ ownS τ σ a
def held : Sl → Prop
  | .ow _ | .ln _ | .lk _ _ => True
  | _ => False
section
variable (K : PySem.W.Frag) (mg : Str → Option Value)
def SlOk (Γ : Fm) (O : As) (H : Hp) (x : Option (Option V)) : Sl → Prop
  | .no => True
  | .fz d => ∃ v, x = some (some v) ∧ Rep K mg O H v d
  | .ow d => ∃ p, x = some (some (.ref p)) ∧ (Γ.H0 p = none ∧ ¬ Γ.B p) ∧ OwnC K mg O H p d
  | .ln d => ∃ p, x = some (some (.ref p)) ∧ (Γ.L p ∧ Γ.B p) ∧ OwnC K mg O H p d
  | .lk d l => ∃ p, x = some (some (.ref p)) ∧ ((l = false ∧ Γ.H0 p = none ∧ ¬ Γ.B p) ∨ (l = true ∧ Γ.L p ∧ Γ.B p)) ∧ OwnC K mg O H p d
structure SOk (Γ : Fm) (τ : Stt) (σ : L2.St) (H : Hp) : Prop where
  len : τ.length = σ.length
  sl : ∀ (i : Nat) (s : Sl), τ[i]? = some s → SlOk K mg Γ (Γ.O τ σ) H σ[i]? s
  dist : ∀ (i j : Nat) (s t : Sl) (p : Addr), τ[i]? = some s → held s → τ[j]? = some t → held t → σ[i]? = some (some (.ref p)) → σ[j]? = some (some (.ref p)) → i = j
  fr : ∀ a o, Γ.H0 a = some o → ¬ Γ.L a → H a = some o
  bt : ∀ a, Γ.B a → ∃ o, H a = some o
  lb : ∀ a, Γ.L a → Γ.B a
  la : ∀ (i : Nat) (s : Sl) (p : Addr), τ[i]? = some s → held s → σ[i]? = some (some (.ref p)) → Γ.L p → p = Γ.A i
  pn : ∀ (i : Nat) (a : Addr), Γ.P i = some a → σ[i]? = some (some (.ref a)) ∧ ∃ d l, τ[i]? = some (.lk d l)
end
/-- from one state of a frame to another one (the same names' values) -/
structure Step (σ : L2.St) (τ : Stt) (H : Hp) (σ' : L2.St) (τ' : Stt) (H' : Hp) : Prop where
  o : ∀ a x, ownS τ' σ' a → H a = some x → ownS τ σ a
  m : ∀ a x, mutS τ' σ' a → H a = some x → mutS τ σ a
  k : ∀ a x, H a = some x → ¬ mutS τ σ a → H' a = some x
  t : ∀ a x, H a = some x → ∃ y, H' a = some y
section
variable {K : PySem.W.Frag} {mg : Str → Option Value} {Γ : Fm} {τ τ1 τ' : Stt} {σ : L2.St} {H H1 H' : Hp}
theorem Step.refl : Step σ τ H σ τ H := ⟨fun _ _ h _ => h, fun _ _ h _ => h, fun _ _ h _ => h, fun _ x h => ⟨x, h⟩⟩
theorem Step.grow (k : ∀ a o, H a = some o → H' a = some o) : Step σ τ H σ τ H' := ⟨fun _ _ h _ => h, fun _ _ h _ => h, fun a x h _ => k a x h, fun a x h => ⟨x, k a x h⟩⟩
theorem Step.free {p : Addr} {σ' : L2.St} (s : Step σ τ H σ' τ' H') (h : H' p = none) : H p = none := by
  cases e : H p with
  | none => rfl
  | some x => obtain ⟨y, q⟩ := s.t p x e; rw [h] at q; cases q
theorem Step.trans {σ1 σ' : L2.St} (a : Step σ τ H σ1 τ1 H1) (b : Step σ1 τ1 H1 σ' τ' H') : Step σ τ H σ' τ' H' :=
  ⟨fun x y h e => let ⟨z, q⟩ := a.t x y e; a.o x y (b.o x z h q) e, fun x y h e => let ⟨z, q⟩ := a.t x y e; a.m x y (b.m x z h q) e, fun x y h n => b.k x y (a.k x y h n) fun z => n (a.m x y z h), fun x y h => let ⟨z, q⟩ := a.t x y h; b.t x z q⟩
theorem SOk.mut_lst (ok : SOk K mg Γ τ σ H) {a : Addr} (h : mutS τ σ a) : (∃ xs, H a = some (.lst xs)) ∧ Γ.O τ σ a := by
  obtain ⟨i, d, hs, hv⟩ := h
  rcases hs with hs | hs
  · obtain ⟨p, e, _, xs, ds, _, hp, _⟩ := ok.sl i _ hs
    rw [hv] at e; cases e
    exact ⟨⟨xs, hp⟩, .inr ⟨i, d, .inl hs, hv⟩⟩
  · obtain ⟨p, e, ⟨_, hb⟩, xs, ds, _, hp, _⟩ := ok.sl i _ hs
    rw [hv] at e; cases e
    exact ⟨⟨xs, hp⟩, .inl hb⟩
theorem Step.stay {σ' : L2.St} (ok : SOk K mg Γ τ σ H) (s : Step σ τ H σ' τ' H') : Stay (Γ.O τ σ) H (Γ.O τ' σ') H' where
  o := fun a x h e => h.elim .inl fun z => .inr (s.o a x z e)
  k := fun a x e h => s.k a x e fun z => by
    obtain ⟨⟨xs, e'⟩, o⟩ := ok.mut_lst z
    rcases h with h | h
    · rw [e] at e'; cases e'; exact h
    · exact h o
/-- .. where a new list has come -/
theorem Step.stay_add {p : Addr} (ok : SOk K mg Γ τ σ H) {σ' : L2.St} (s : Step σ τ H σ' τ' H') (hp : H p = none) : Stay (Γ.O τ σ) H ((Γ.add p).O τ' σ') H' where
  o := fun a x h e => by
    rcases h with (h | h) | h
    · exact .inl h
    · rw [h, hp] at e; cases e
    · exact .inr (s.o a x h e)
  k := (s.stay ok).k
theorem SOk.unadd {p : Addr} (ok : SOk K mg (Γ.add p) τ σ H) (hL : ¬ Γ.L p) : SOk K mg Γ τ σ H := by
  have ho : ∀ a, Γ.O τ σ a → (Γ.add p).O τ σ a := fun a h => h.elim (fun z => .inl (.inl z)) .inr
  have hC : ∀ {a d}, OwnC K mg ((Γ.add p).O τ σ) H a d → OwnC K mg (Γ.O τ σ) H a d := fun ⟨xs, ds, e1, e2, r⟩ => ⟨xs, ds, e1, e2, r.weak ho⟩
  have hl : ∀ {a}, Γ.L a ∧ (Γ.add p).B a → Γ.L a ∧ Γ.B a := fun ⟨h1, h2⟩ => ⟨h1, h2.elim id fun z => absurd h1 (z ▸ hL)⟩
  refine ⟨ok.len, fun i s e => ?_, ok.dist, ok.fr, fun a h => ok.bt a (.inl h), fun a h => (hl ⟨h, ok.lb a h⟩).2, ok.la, ok.pn⟩
  have q := ok.sl i s e
  cases s with
  | no => trivial
  | fz d => obtain ⟨v, e, r⟩ := q; exact ⟨v, e, r.weak ho⟩
  | ow d => obtain ⟨a, e, ⟨h1, h2⟩, c⟩ := q; exact ⟨a, e, ⟨h1, fun z => h2 (.inl z)⟩, hC c⟩
  | ln d => obtain ⟨a, e, h, c⟩ := q; exact ⟨a, e, hl h, hC c⟩
  | lk d l =>
    obtain ⟨a, e, h, c⟩ := q
    refine ⟨a, e, ?_, hC c⟩
    rcases h with ⟨h0, h1, h2⟩ | ⟨h0, h⟩
    · exact .inl ⟨h0, h1, fun z => h2 (.inl z)⟩
    · exact .inr ⟨h0, hl h⟩
/-- the heap has grown, nothing else -/
theorem SOk.grow (ok : SOk K mg Γ τ σ H) (k : ∀ a o, H a = some o → H' a = some o) : SOk K mg Γ τ σ H' := by
  have st : Stay (Γ.O τ σ) H (Γ.O τ σ) H' := ⟨fun _ _ h _ => h, fun a x e _ => k a x e⟩
  have hC : ∀ {a d}, OwnC K mg (Γ.O τ σ) H a d → OwnC K mg (Γ.O τ σ) H' a d := fun ⟨xs, ds, e1, e2, r⟩ => ⟨xs, ds, e1, k _ _ e2, r.stay st⟩
  refine ⟨ok.len, fun i s e => ?_, ok.dist, fun a o e n => k a o (ok.fr a o e n), fun a h => let ⟨o, e⟩ := ok.bt a h; ⟨o, k a o e⟩, ok.lb, ok.la, ok.pn⟩
  have q := ok.sl i s e
  cases s with
  | no => trivial
  | fz d => obtain ⟨v, e, r⟩ := q; exact ⟨v, e, r.stay st⟩
  | ow d => obtain ⟨a, e, h, c⟩ := q; exact ⟨a, e, h, hC c⟩
  | ln d => obtain ⟨a, e, h, c⟩ := q; exact ⟨a, e, h, hC c⟩
  | lk d l => obtain ⟨a, e, h, c⟩ := q; exact ⟨a, e, h, hC c⟩
/-- .. and a new object at p is kept apart -/
theorem SOk.grow_add {p : Addr} (ok : SOk K mg Γ τ σ H) (k : ∀ a o, H a = some o → H' a = some o) (hp : H p = none) (hp' : ∃ o, H' p = some o) : SOk K mg (Γ.add p) τ σ H' := by
  have hO : ∀ a x, (Γ.add p).O τ σ a → H a = some x → Γ.O τ σ a := fun a x h e => by
    rcases h with (h | h) | h
    · exact .inl h
    · rw [h, hp] at e; cases e
    · exact .inr h
  have st : Stay (Γ.O τ σ) H ((Γ.add p).O τ σ) H' := ⟨hO, fun a x e _ => k a x e⟩
  have hC : ∀ {a d}, OwnC K mg (Γ.O τ σ) H a d → OwnC K mg ((Γ.add p).O τ σ) H' a d := fun ⟨xs, ds, e1, e2, r⟩ => ⟨xs, ds, e1, k _ _ e2, r.stay st⟩
  have hn : ∀ {a d}, OwnC K mg (Γ.O τ σ) H a d → ¬ Γ.B a → ¬ (Γ.add p).B a := fun ⟨xs, ds, e1, e2, r⟩ n z => z.elim n fun z => by rw [z, hp] at e2; cases e2
  refine ⟨ok.len, fun i s e => ?_, ok.dist, fun a o e n => k a o (ok.fr a o e n), fun a h => ?_, fun a h => .inl (ok.lb a h), ok.la, ok.pn⟩
  · have q := ok.sl i s e
    cases s with
    | no => trivial
    | fz d => obtain ⟨v, e, r⟩ := q; exact ⟨v, e, r.stay st⟩
    | ow d => obtain ⟨a, e, ⟨h1, h2⟩, c⟩ := q; exact ⟨a, e, ⟨h1, hn c h2⟩, hC c⟩
    | ln d => obtain ⟨a, e, ⟨h1, h2⟩, c⟩ := q; exact ⟨a, e, ⟨h1, .inl h2⟩, hC c⟩
    | lk d l =>
      obtain ⟨a, e, h, c⟩ := q
      refine ⟨a, e, ?_, hC c⟩
      rcases h with ⟨h0, h1, h2⟩ | ⟨h0, h1, h2⟩
      · exact .inl ⟨h0, h1, hn c h2⟩
      · exact .inr ⟨h0, h1, .inl h2⟩
  · rcases h with h | h
    · obtain ⟨o, e⟩ := ok.bt a h
      exact ⟨o, k a o e⟩
    · rw [h]; exact hp'
theorem SOk.noL {p : Addr} (ok : SOk K mg Γ τ σ H) (hp : H p = none) : ¬ Γ.L p := fun z => by
  obtain ⟨o, e⟩ := ok.bt p (ok.lb p z)
  rw [hp] at e; cases e
end

/-! ### what an expression leaves -/
section
variable (K : PySem.W.Frag) (mg : Str → Option Value)
/-- from the state τ, H the value v, that holds r, in the state τ', H' -/
def Post (Γ : Fm) (σ : L2.St) (τ : Stt) (H : Hp) (r : RV) (τ' : Stt) (v : V) (H' : Hp) : Prop :=
  Step σ τ H σ τ' H' ∧ match r.fr with
    | false => SOk K mg Γ τ' σ H' ∧ Rep K mg (Γ.O τ' σ) H' v r.d
    | true => ∃ p, v = .ref p ∧ H p = none ∧ SOk K mg (Γ.add p) τ' σ H' ∧ OwnC K mg ((Γ.add p).O τ' σ) H' p r.d
def fin (Γ : Fm) (σ : L2.St) (τ : Stt) (H : Hp) (r : R RV) (Q : VK) : Prop := match r with
  | .ok r τ' => ∀ v H', Post K mg Γ σ τ H r τ' v H' → Q v H'
  | .ex e τ' => Γ.xw e τ'
  | .bad => False
/-- the reading of a combinator -/
def rd (Γ : Fm) (F : Ex) : TE := fun σ H Q => ∃ τ, SOk K mg Γ τ σ H ∧ fin K mg Γ σ τ H (F τ) Q
end
section
variable {K : PySem.W.Frag} {mg : Str → Option Value} {Γ : Fm} {τ τ1 τ' : Stt} {σ : L2.St} {H H1 H' : Hp} {r : RV} {v : V} {Q Q' : VK}
/-- the value, shared from now on -/
theorem Post.frz (ok : SOk K mg Γ τ σ H) (h : Post K mg Γ σ τ H r τ' v H') : Step σ τ H σ τ' H' ∧ SOk K mg Γ τ' σ H' ∧ Rep K mg (Γ.O τ' σ) H' v r.d := by
  obtain ⟨d, fr⟩ := r
  obtain ⟨s, h⟩ := h
  cases fr with
  | false => exact ⟨s, h⟩
  | true =>
    obtain ⟨p, rfl, hp, ok', xs, ds, rfl, e2, ra⟩ := h
    have ok2 := ok'.unadd (ok.noL hp)
    have ho : ∀ a, Γ.O τ' σ a → (Γ.add p).O τ' σ a := fun a h => h.elim (fun z => .inl (.inl z)) .inr
    refine ⟨s, ok2, .lst (fun z => ?_) (.inl e2) (ra.weak ho)⟩
    rcases z with z | ⟨i, d, z, e⟩
    · obtain ⟨o, e⟩ := ok.bt p z
      rw [hp] at e; cases e
    · rcases z with z | z
      · obtain ⟨a, e', ⟨_, n⟩, _⟩ := ok'.sl i _ z
        rw [e] at e'; cases e'
        exact n (.inr rfl)
      · obtain ⟨a, e', n, _⟩ := ok'.sl i _ z
        rw [e] at e'; cases e'
        rcases n with ⟨_, _, n⟩ | ⟨z, _⟩
        · exact n (.inr rfl)
        · cases z
theorem fin_mono {x : R RV} (h : fin K mg Γ σ τ H x Q) (m : ∀ v H', Q v H' → Q' v H') : fin K mg Γ σ τ H x Q' := by
  cases x with
  | ok r τ' => exact fun v H' p => m _ _ (h v H' p)
  | ex e τ' => exact h
  | bad => exact h
end

/-! ### arguments -/
section
variable (K : PySem.W.Frag) (mg : Str → Option Value)
def PkOk (O : As) (σ : L2.St) (H : Hp) (v : V) : Pk → Prop
  | .v d => Rep K mg O H v d
  | .s i => σ[i]? = some (some v)
inductive PksOk (O : As) (σ : L2.St) (H : Hp) : List V → List Pk → Prop
  | nil : PksOk O σ H [] []
  | cons {v : V} {vs : List V} {p : Pk} {ps : List Pk} : PkOk K mg O σ H v p → PksOk O σ H vs ps → PksOk O σ H (v :: vs) (p :: ps)
/-- the reading of an argument -/
def rdP (Γ : Fm) (A : Arg) : TE := fun σ H Q => ∃ τ, SOk K mg Γ τ σ H ∧ match fArg A τ with
  | .ok p τ' => ∀ v H', Step σ τ H σ τ' H' → SOk K mg Γ τ' σ H' → PkOk K mg (Γ.O τ' σ) σ H' v p → Q v H'
  | .ex e τ' => Γ.xw e τ'
  | .bad => False
def rdA (Γ : Fm) (As : List Arg) : TA := fun σ H Q => ∃ τ, SOk K mg Γ τ σ H ∧ match fArgs As τ with
  | .ok ps τ' => ∀ vs H', Step σ τ H σ τ' H' → SOk K mg Γ τ' σ H' → PksOk K mg (Γ.O τ' σ) σ H' vs ps → Q vs H'
  | .ex e τ' => Γ.xw e τ'
  | .bad => False
end
section
variable {K : PySem.W.Frag} {mg : Str → Option Value} {Γ : Fm} {τ τ1 τ' : Stt} {σ : L2.St} {H H1 H' : Hp} {r : RV} {v : V} {Q Q' : VK} {O O' : As}
theorem PkOk.stay {p : Pk} (st : Stay O H O' H') (h : PkOk K mg O σ H v p) : PkOk K mg O' σ H' v p := by
  cases p with
  | v d => exact Rep.stay st h
  | s i => exact h
theorem PksOk.stay {ps : List Pk} {vs : List V} (st : Stay O H O' H') (h : PksOk K mg O σ H vs ps) : PksOk K mg O' σ H' vs ps := by
  induction h with
  | nil => exact .nil
  | cons p _ ih => exact .cons (p.stay st) ih
theorem SOk.look (ok : SOk K mg Γ τ σ H) {i : Nat} {s : Sl} {d : D} (e : τ[i]? = some s) (hd : s.d? = some d) : ∃ v, σ[i]? = some (some v) ∧ RepT K mg (Γ.O τ σ) H v d := by
  have q := ok.sl i s e
  cases s with
  | no => cases hd
  | fz d => cases hd; obtain ⟨v, e, r⟩ := q; exact ⟨v, e, .rep r⟩
  | ow d => cases hd; obtain ⟨a, e, _, c⟩ := q; exact ⟨_, e, .own c⟩
  | ln d => cases hd; obtain ⟨a, e, _, c⟩ := q; exact ⟨_, e, .own c⟩
  | lk d l => cases hd; obtain ⟨a, e, _, c⟩ := q; exact ⟨_, e, .own c⟩
theorem PkOk.res (ok : SOk K mg Γ τ σ H) {p : Pk} {d : D} (h : PkOk K mg (Γ.O τ σ) σ H v p) (e : p.res τ = some d) : RepT K mg (Γ.O τ σ) H v d := by
  cases p with
  | v d' => cases e; exact .rep h
  | s i =>
    cases q : τ[i]? with
    | none => simp [Pk.res, q] at e
    | some s =>
      simp only [Pk.res, q, Option.bind_some] at e
      obtain ⟨u, e1, r⟩ := ok.look q e
      rw [show σ[i]? = some (some v) from h] at e1
      cases e1
      exact r
theorem PksOk.res (ok : SOk K mg Γ τ σ H) : ∀ {ps : List Pk} {vs : List V} {ds : List D}, PksOk K mg (Γ.O τ σ) σ H vs ps → resAll τ ps = some ds → RepTA K mg (Γ.O τ σ) H vs ds
  | [], _, ds, .nil, e => by cases e; exact .nil
  | p :: ps, _, ds, .cons h t, e => by
    unfold resAll at e
    cases e1 : p.res τ with
    | none => rw [e1] at e; cases e
    | some d =>
      cases e2 : resAll τ ps with
      | none => rw [e1, e2] at e; cases e
      | some ds' => rw [e1, e2] at e; cases e; exact .cons (h.res ok e1) (PksOk.res ok t e2)
/-- a new thing, or an old one -/
def PAl (K : PySem.W.Frag) (mg : Str → Option Value) (O : As) (H : Hp) (r : RV) (v : V) (H' : Hp) : Prop :=
  (∀ a o, H a = some o → H' a = some o) ∧ match r.fr with
    | false => Rep K mg O H' v r.d
    | true => ∃ p, v = .ref p ∧ H p = none ∧ OwnC K mg (fun a => O a ∨ a = p) H' p r.d
/-- what a built-in does upon values -/
def PrimR (K : PySem.W.Frag) (mg : Str → Option Value) (p : List D → Option RV) (vs : List V) (H : Hp) (Q : VK) : Prop :=
  ∃ O ds r, RepTA K mg O H vs ds ∧ p ds = some r ∧ ∀ v H', PAl K mg O H r v H' → Q v H'
theorem PAl.post {τ0 : Stt} {H0 : Hp} (s : Step σ τ0 H0 σ τ H) (ok : SOk K mg Γ τ σ H) (h : PAl K mg (Γ.O τ σ) H r v H') : Post K mg Γ σ τ0 H0 r τ v H' := by
  obtain ⟨d, fr⟩ := r
  obtain ⟨k, h⟩ := h
  refine ⟨s.trans (.grow k), ?_⟩
  cases fr with
  | false => exact ⟨ok.grow k, h⟩
  | true =>
    obtain ⟨p, e, hp, xs, ds, e1, e2, ra⟩ := h
    refine ⟨p, e, s.free hp, ok.grow_add k hp ⟨_, e2⟩, xs, ds, e1, e2, ra.weak fun a h => ?_⟩
    rcases h with (h | h) | h
    · exact .inl (.inl h)
    · exact .inr h
    · exact .inl (.inr h)
theorem prim_fin {τ0 : Stt} {H0 : Hp} {p : List D → Option RV} {ps : List Pk} {vs : List V} (s : Step σ τ0 H0 σ τ H) (ok : SOk K mg Γ τ σ H) (hp : PksOk K mg (Γ.O τ σ) σ H vs ps)
    (h : fin K mg Γ σ τ0 H0 (match resAll τ ps with
      | some ds => match p ds with
        | some r => .ok r τ
        | none => .bad
      | none => .bad) Q) : PrimR K mg p vs H Q := by
  cases e1 : resAll τ ps with
  | none => rw [e1] at h; exact h.elim
  | some ds =>
    cases e2 : p ds with
    | none => simp only [e1, e2] at h; exact h.elim
    | some r =>
      simp only [e1, e2] at h
      exact ⟨_, ds, r, hp.res ok e1, e2, fun v H' a => h v H' (a.post s ok)⟩
/-- arguments, then a built-in -/
theorem prim_args {p : List D → Option RV} {As : List Arg} (h : rd K mg Γ (fPrim p As) σ H Q) : rdA K mg Γ As σ H fun vs H1 => PrimR K mg p vs H1 Q := by
  obtain ⟨τ, ok, h⟩ := h
  refine ⟨τ, ok, ?_⟩
  unfold fPrim at h
  cases e : fArgs As τ with
  | ok ps τ' => rw [e] at h; exact fun vs H' s ok' hp => prim_fin s ok' hp h
  | ex e' τ' => rw [e] at h; exact h
  | bad => rw [e] at h; exact h
theorem prim_two {p : List D → Option RV} {A B : Arg} (h : rd K mg Γ (fPrim p [A, B]) σ H Q) : rdP K mg Γ A σ H fun x H1 => rdP K mg Γ B σ H1 fun y H2 => PrimR K mg p [x, y] H2 Q := by
  obtain ⟨τ, ok, h⟩ := h
  refine ⟨τ, ok, ?_⟩
  unfold fPrim at h
  simp only [fArgs] at h
  cases e : fArg A τ with
  | ex e' τ' => rw [e] at h; exact h
  | bad => rw [e] at h; exact h
  | ok a τ' =>
    rw [e] at h
    intro x H1 s1 ok1 h1
    refine ⟨τ', ok1, ?_⟩
    simp only [R.bind] at h
    cases e2 : fArg B τ' with
    | ex e' τ' => rw [e2] at h; exact h
    | bad => rw [e2] at h; exact h
    | ok b τ2 =>
      rw [e2] at h
      exact fun y H2 s2 ok2 h2 => prim_fin (s1.trans s2) ok2 (.cons (h1.stay (s2.stay ok1)) (.cons h2 .nil)) h
theorem prim_one {p : List D → Option RV} {A : Arg} (h : rd K mg Γ (fPrim p [A]) σ H Q) : rdP K mg Γ A σ H fun x H1 => PrimR K mg p [x] H1 Q := by
  obtain ⟨τ, ok, h⟩ := h
  refine ⟨τ, ok, ?_⟩
  unfold fPrim at h
  simp only [fArgs] at h
  cases e : fArg A τ with
  | ex e' τ' => rw [e] at h; exact h
  | bad => rw [e] at h; exact h
  | ok a τ' =>
    rw [e] at h
    exact fun x H1 s1 ok1 h1 => prim_fin s1 ok1 (.cons h1 .nil) h
end

/-! ### judgements -/
theorem peM {X : Cx} {e : Expr} {t t' : TE} (h : PE X e t) (m : ∀ σ H Q, t' σ H Q → t σ H Q) : PE X e t' := ⟨fun pins s σ H Q I q => h.run pins s σ H Q I (m _ _ _ q)⟩
theorem ptM {X : Cx} {e : Expr} {t t' : TT} (h : PT X e t) (m : ∀ σ H Q, t' σ H Q → t σ H Q) : PT X e t' := ⟨fun pins s σ H Q I q => h.run pins s σ H Q I (m _ _ _ q)⟩
theorem paM {X : Cx} {es : List Expr} {t t' : TA} (h : PA X es t) (m : ∀ σ H Q, t' σ H Q → t σ H Q) : PA X es t' := ⟨fun pos pins s σ H Q I q => h.run pos pins s σ H Q I (m _ _ _ q)⟩
def DE (X : Cx) (e : Expr) (F : Ex) : Prop := ∀ Γ, PE X e (rd X.K X.mg Γ F)
def DP (X : Cx) (e : Expr) (A : Arg) : Prop := ∀ Γ, PE X e (rdP X.K X.mg Γ A)
def DA (X : Cx) (es : List Expr) (As : List Arg) : Prop := ∀ Γ, PA X es (rdA X.K X.mg Γ As)
/-- a built-in upon two values; a call of values -/
def PrimO (X : Cx) (f : Value → Value → Sem Value) (p : List D → Option RV) : Prop := OpR X f fun x y H Q => PrimR X.K X.mg p [x, y] H Q
def PrimU (X : Cx) (f : Value → Sem Value) (p : List D → Option RV) : Prop := UnR X f fun x H Q => PrimR X.K X.mg p [x] H Q
def PrimC (X : Cx) (f : Value) (p : List D → Option RV) : Prop := CallR X f fun vs H Q => PrimR X.K X.mg p vs H Q
section
variable {X : Cx} {a b e : Expr} {es : List Expr} {pos p : Pos} {F : Ex} {A B : Arg} {As : List Arg} {q : List D → Option RV} {x : Str} {id T : String}
theorem dp_v (h : DE X e F) : DP X e (.v F) := fun Γ => peM (h Γ) fun σ H Q hq => by
  obtain ⟨τ, ok, hq⟩ := hq
  refine ⟨τ, ok, ?_⟩
  simp only [fArg] at hq
  cases e : F τ with
  | ok r τ' =>
    rw [e] at hq
    intro v H' ps
    obtain ⟨s, ok', rp⟩ := ps.frz ok
    exact hq v H' s ok' rp
  | ex e' τ' => rw [e] at hq; exact hq
  | bad => rw [e] at hq; exact hq
theorem dp_s {i : Nat} (h : PE X e (tVar i)) : DP X e (.s i) := fun Γ => peM h fun σ H Q hq => by
  obtain ⟨τ, ok, hq⟩ := hq
  simp only [fArg] at hq
  cases e1 : (τ[i]?).bind Sl.d? with
  | none => rw [e1] at hq; exact hq.elim
  | some d =>
    rw [e1] at hq
    cases e2 : τ[i]? with
    | none => rw [e2] at e1; cases e1
    | some s =>
      rw [e2] at e1
      obtain ⟨v, e3, _⟩ := ok.look e2 e1
      exact ⟨v, e3, hq v H .refl ok e3⟩
theorem de_bin {op : Operator} (ho : PrimO X (binaryOp op) q) (ha : DP X a A) (hb : DP X b B) : DE X (.BinOp a op b pos) (fPrim q [A, B]) := fun Γ => peM (pe_op ho (ha Γ) (hb Γ)) fun _ _ _ h => prim_two h
theorem de_cmp {op : CmpOp} (ho : PrimO X (compareOp op) q) (ha : DP X a A) (hb : DP X b B) (hm : behindInMarks op b = false) : DE X (.Compare a [op] [b] pos) (fPrim q [A, B]) := fun Γ => peM (pe_cmpR ho (ha Γ) (hb Γ) hm) fun _ _ _ h => prim_two h
theorem de_un {op : UnaryOp} (ho : PrimU X (unaryOp op) q) (ha : DP X a A) : DE X (.UnaryOp op a pos) (fPrim q [A]) := fun Γ => peM (pe_un ho (ha Γ)) fun _ _ _ h => prim_one h
theorem de_callB (hc : PrimC X (.builtin id) q) (hg : Gl X x) (hm : X.mg x = none) (hv : bootBuiltins x = some (.builtin id)) (ha : DA X (e :: es) As) (hn : x ≠ "__name__" := by decide) (hdb : (x == ("__debug__" : Str)) = false := by decide)
    (he : starEach (e :: es) X.env = (false, eval e X.env) :: starEach es X.env := by rfl) (hpl : (backTo pos (starEach es X.env)).any (·.1) = false := by rfl) : DE X (.Call (.Name x p) (e :: es) [] pos) (fPrim q As) :=
  fun Γ => peM (pe_callB hc hg hm hv (ha Γ) hn hdb he hpl) fun _ _ _ h => prim_args h
theorem de_callT (hc : PrimC X (.type T) q) (hg : Gl X x) (hm : X.mg x = none) (hv : bootBuiltins x = some (.type T)) (ha : DA X (e :: es) As) (hn : x ≠ "__name__" := by decide) (hdb : (x == ("__debug__" : Str)) = false := by decide)
    (he : starEach (e :: es) X.env = (false, eval e X.env) :: starEach es X.env := by rfl) (hpl : (backTo pos (starEach es X.env)).any (·.1) = false := by rfl) : DE X (.Call (.Name x p) (e :: es) [] pos) (fPrim q As) :=
  fun Γ => peM (pe_callTy hc hg hm hv (ha Γ) hn hdb he hpl) fun _ _ _ h => prim_args h
end
end Wt
set_option autoImplicit false
set_option Elab.async false
set_option linter.all false
set_option maxRecDepth 100000
/-! Wt.Rules: a rule for each combinator: expressions, tests. -/
namespace Wt
open PySem PySem.Spec PyProof.Rows L2

section
variable {X : Cx} {a b c e : Expr} {es : List Expr} {pos p : Pos} {F G F' : Ex} {A B : Arg} {Al : List Arg} {q : List D → Option RV} {x : Str} {id T : String}
/-! ### argument lists -/
theorem da_nil : DA X [] [] := fun Γ => paM pa_nil fun σ H Q h => by
  obtain ⟨τ, ok, h⟩ := h
  exact h [] H .refl ok .nil
theorem da_cons (ha : DP X e A) (hr : DA X es Al) (hs : starEach (e :: es) X.env = (false, eval e X.env) :: starEach es X.env := by rfl) : DA X (e :: es) (A :: Al) := fun Γ => paM (pa_cons (ha Γ) (hr Γ) hs) fun σ H Q h => by
  obtain ⟨τ, ok, h⟩ := h
  refine ⟨τ, ok, ?_⟩
  simp only [fArgs] at h
  cases e1 : fArg A τ with
  | ex e' τ' => rw [e1] at h; exact h
  | bad => rw [e1] at h; exact h
  | ok a τ' =>
    rw [e1] at h
    intro x H1 s1 ok1 h1
    refine ⟨τ', ok1, ?_⟩
    simp only [R.bind] at h
    cases e2 : fArgs Al τ' with
    | ex e' τ' => rw [e2] at h; exact h
    | bad => rw [e2] at h; exact h
    | ok bs τ2 =>
      rw [e2] at h
      exact fun ys H2 s2 ok2 h2 => h _ _ (s1.trans s2) ok2 (.cons (h1.stay (s2.stay ok1)) h2)

/-! ### names, constants -/
theorem de_con {v : V} {d : D} (h : PE X e (tC v)) (hr : ∀ O H, Rep X.K X.mg O H v d) : DE X e (fC d) := fun Γ => peM h fun σ H Q hq => by
  obtain ⟨τ, ok, hq⟩ := hq
  exact hq v H ⟨.refl, ok, hr _ _⟩
theorem de_int {i : Int} {j pos} : DE X (.Constant (.int i) j pos) (fC (.int i)) := de_con pe_int fun _ _ => .int i
theorem de_bl {i : Bool} {j pos} : DE X (.Constant (.bool i) j pos) (fC (.bl i)) := de_con pe_bl fun _ _ => .bl i
theorem de_non {j pos} : DE X (.Constant .none j pos) (fC .non) := de_con pe_non fun _ _ => .non
theorem de_str {i : Str} {j pos} : DE X (.Constant (.str i) j pos) (fC (.str i)) := de_con pe_str fun _ _ => .str i
/-- a def as a value -/
theorem de_fn {f : Addr} (hg : Gl X x) (hm : X.mg x = some (.ref f)) (hd : (x == ("__debug__" : Str)) = false := by decide) : DE X (.Name x pos) (fC (.fn x)) := de_con (pe_glob hg hm (v := .ref f) rfl hd) fun _ _ => .fn hm
/-- a constant of the module -/
theorem de_gint {i : Int} {t : Tok} (hg : Gl X x) (hm : X.mg x = some (.int i t)) (hd : (x == ("__debug__" : Str)) = false := by decide) : DE X (.Name x pos) (fC (.int i)) := de_con (pe_glob hg hm (v := .int i) ⟨t, rfl⟩ hd) fun _ _ => .int i
theorem de_gstr {i : Str} {t : Tok} (hg : Gl X x) (hm : X.mg x = some (.str i t)) (hd : (x == ("__debug__" : Str)) = false := by decide) : DE X (.Name x pos) (fC (.str i)) := de_con (pe_glob hg hm (v := .str i) ⟨t, rfl⟩ hd) fun _ _ => .str i

theorem SOk.freeze {K : PySem.W.Frag} {mg : Str → Option Value} {Γ : Fm} {τ : Stt} {σ : L2.St} {H : Hp} {i : Nat} {d : D} (ok : SOk K mg Γ τ σ H) (hi : τ[i]? = some (.ow d)) :
    Step σ τ H σ (τ.set i (.fz d)) H ∧ SOk K mg Γ (τ.set i (.fz d)) σ H ∧ ∃ v, σ[i]? = some (some v) ∧ Rep K mg (Γ.O (τ.set i (.fz d)) σ) H v d := by
  obtain ⟨p, ep, ⟨hp1, hp2⟩, xs, ds, rfl, eH, ra⟩ := ok.sl i _ hi
  have hlt : i < τ.length := (List.getElem?_eq_some_iff.mp hi).1
  have get : ∀ j s, (τ.set i (.fz (.lst ds)))[j]? = some s → (j = i ∧ s = .fz (.lst ds)) ∨ (j ≠ i ∧ τ[j]? = some s) := fun j s e => by
    by_cases hj : i = j
    · subst hj
      rw [List.getElem?_set_self hlt] at e
      cases e; exact .inl ⟨rfl, rfl⟩
    · rw [List.getElem?_set_ne hj] at e
      exact .inr ⟨fun z => hj z.symm, e⟩
  have ow : ∀ a, ownS (τ.set i (.fz (.lst ds))) σ a → ownS τ σ a ∧ a ≠ p := fun a ⟨j, d', h, e⟩ => by
    have h' : ∃ s, (s = Sl.ow d' ∨ s = Sl.lk d' false) ∧ (τ.set i (.fz (.lst ds)))[j]? = some s := by
      rcases h with h | h
      · exact ⟨_, .inl rfl, h⟩
      · exact ⟨_, .inr rfl, h⟩
    obtain ⟨s, hs, h'⟩ := h'
    rcases get j s h' with ⟨_, z⟩ | ⟨nj, z⟩
    · rw [z] at hs; rcases hs with hs | hs <;> cases hs
    · refine ⟨⟨j, d', hs.elim (fun q => .inl (q ▸ z)) (fun q => .inr (q ▸ z)), e⟩, fun ap => nj ?_⟩
      subst ap
      exact ok.dist j i s _ _ z (by rcases hs with rfl | rfl <;> trivial) hi trivial e ep
  have stp : Step σ τ H σ (τ.set i (.fz (.lst ds))) H := by
    refine ⟨fun a _ h _ => (ow a h).1, fun a _ ⟨j, d', h, e⟩ _ => ?_, fun _ _ h _ => h, fun _ x h => ⟨x, h⟩⟩
    rcases h with h | h
    · rcases get j _ h with ⟨_, z⟩ | ⟨_, z⟩
      · cases z
      · exact ⟨j, d', .inl z, e⟩
    · rcases get j _ h with ⟨_, z⟩ | ⟨_, z⟩
      · cases z
      · exact ⟨j, d', .inr z, e⟩
  have hO : ∀ a, Γ.O (τ.set i (.fz (.lst ds))) σ a → Γ.O τ σ a := fun a h => h.elim .inl fun z => .inr (ow a z).1
  have rp : Rep K mg (Γ.O (τ.set i (.fz (.lst ds))) σ) H (.ref p) (.lst ds) := .lst (fun z => z.elim hp2 fun z => (ow p z).2 rfl) (.inl eH) (ra.weak hO)
  refine ⟨stp, ⟨by rw [List.length_set]; exact ok.len, fun j s e => ?_, fun j k s t a e1 h1 e2 h2 => ?_, ok.fr, ok.bt, ok.lb, fun j s q e1 h1 e2 => ?_, fun j a e => ?_⟩, _, ep, rp⟩
  · rcases get j s e with ⟨rfl, rfl⟩ | ⟨_, z⟩
    · exact ⟨_, ep, rp⟩
    · have hC : ∀ {a d}, OwnC K mg (Γ.O τ σ) H a d → OwnC K mg (Γ.O (τ.set i (.fz (.lst ds))) σ) H a d := fun ⟨xs, ds, e1, e2, r⟩ => ⟨xs, ds, e1, e2, r.weak hO⟩
      have q := ok.sl j s z
      cases s with
      | no => trivial
      | fz d => obtain ⟨v, e, r⟩ := q; exact ⟨v, e, r.weak hO⟩
      | ow d => obtain ⟨a, e, h, c⟩ := q; exact ⟨a, e, h, hC c⟩
      | ln d => obtain ⟨a, e, h, c⟩ := q; exact ⟨a, e, h, hC c⟩
      | lk d l => obtain ⟨a, e, h, c⟩ := q; exact ⟨a, e, h, hC c⟩
  · rcases get j s e1 with ⟨_, rfl⟩ | ⟨_, z1⟩
    · exact h1.elim
    · rcases get k t e2 with ⟨_, rfl⟩ | ⟨_, z2⟩
      · exact h2.elim
      · exact ok.dist j k s t a z1 h1 z2 h2
  · rcases get j s e1 with ⟨_, rfl⟩ | ⟨_, z1⟩
    · exact h1.elim
    · exact ok.la j s q z1 h1 e2
  · obtain ⟨h1, d', l, h2⟩ := ok.pn j a e
    refine ⟨h1, d', l, ?_⟩
    have : i ≠ j := fun z => by subst z; rw [hi] at h2; cases h2
    rw [List.getElem?_set_ne this]; exact h2
theorem de_var {i : Nat} (h : PE X e (tVar i)) : DE X e (fVar i) := fun Γ => peM h fun σ H Q hq => by
  obtain ⟨τ, ok, hq⟩ := hq
  unfold fVar at hq
  cases e1 : τ[i]? with
  | none => rw [e1] at hq; exact hq.elim
  | some s =>
    rw [e1] at hq
    cases s with
    | no => exact hq.elim
    | ln d => exact hq.elim
    | lk d l => exact hq.elim
    | fz d =>
      obtain ⟨v, e2, r⟩ := ok.sl i _ e1
      exact ⟨v, e2, hq v H ⟨.refl, ok, r⟩⟩
    | ow d =>
      obtain ⟨s1, ok1, v, e2, r⟩ := ok.freeze e1
      exact ⟨v, e2, hq v H ⟨s1, ok1, r⟩⟩

/-! ### displays -/
theorem dsOf_args : ∀ (Fs : List Ex) (τ : Stt), fArgs (Fs.map .v) τ = (dsOf Fs τ).bind fun ds τ' => .ok (ds.map .v) τ'
  | [], τ => rfl
  | F :: Fs, τ => by
    simp only [List.map_cons, fArgs, fArg, dsOf]
    cases F τ with
    | bad => rfl
    | ex e τ' => rfl
    | ok r τ' =>
      simp only [R.bind]
      rw [dsOf_args Fs τ']
      cases dsOf Fs τ' with
      | bad => rfl
      | ex e τ' => rfl
      | ok ds τ2 => rfl
theorem pks_vs {K : PySem.W.Frag} {mg : Str → Option Value} {O : As} {σ : L2.St} {H : Hp} : ∀ {ds : List D} {vs : List V}, PksOk K mg O σ H vs (ds.map .v) → RepA K mg O H vs ds
  | [], _, .nil => .nil
  | _ :: _, _, .cons h t => .cons h (pks_vs t)
theorem dsOf_rdA {K : PySem.W.Frag} {mg : Str → Option Value} {Γ : Fm} {τ : Stt} {σ : L2.St} {H : Hp} {Fs : List Ex} {Q : List V → Hp → Prop} (ok : SOk K mg Γ τ σ H) (h : match dsOf Fs τ with
      | .ok ds τ' => ∀ vs H', Step σ τ H σ τ' H' → SOk K mg Γ τ' σ H' → RepA K mg (Γ.O τ' σ) H' vs ds → Q vs H'
      | .ex e τ' => Γ.xw e τ'
      | .bad => False) : rdA K mg Γ (Fs.map .v) σ H Q := by
  refine ⟨τ, ok, ?_⟩
  rw [dsOf_args]
  cases e : dsOf Fs τ with
  | bad => rw [e] at h; exact h
  | ex e' τ' => rw [e] at h; exact h
  | ok ds τ' => rw [e] at h; exact fun vs H' s ok' hp => h vs H' s ok' (pks_vs hp)
theorem de_tup {Fs : List Ex} {n : Nat} (h : DA X es (Fs.map .v)) : DE X (.Tuple es n pos) (fTup Fs) := fun Γ => peM (pe_tup (h Γ)) fun σ H Q hq => by
  obtain ⟨τ, ok, hq⟩ := hq
  refine dsOf_rdA ok ?_
  unfold fTup at hq
  cases e : dsOf Fs τ with
  | bad => rw [e] at hq; exact hq
  | ex e' τ' => rw [e] at hq; exact hq
  | ok ds τ' =>
    rw [e] at hq
    intro vs H' s ok' ra
    simp only [R.bind] at hq
    by_cases hl : ds.length ≤ sizeLine
    · rw [if_pos hl] at hq
      refine ⟨by rw [ra.length]; exact hl, fun p hp => hq _ _ ?_⟩
      have k : ∀ a o, H' a = some o → upd H' p (.tup vs) a = some o := fun a o e => by rw [upd_ne (ne_of_none e hp)]; exact e
      exact ⟨s.trans (.grow k), ok'.grow k, .tup (.inl (.inl upd_same)) (ra.stay ⟨fun _ _ h _ => h, fun a x e _ => k a x e⟩)⟩
    · rw [if_neg hl] at hq; exact hq.elim
theorem de_lst {Fs : List Ex} (h : DA X es (Fs.map .v)) : DE X (.List es pos) (fLst Fs) := fun Γ => peM (pe_lst (h Γ)) fun σ H Q hq => by
  obtain ⟨τ, ok, hq⟩ := hq
  refine dsOf_rdA ok ?_
  unfold fLst at hq
  cases e : dsOf Fs τ with
  | bad => rw [e] at hq; exact hq
  | ex e' τ' => rw [e] at hq; exact hq
  | ok ds τ' =>
    rw [e] at hq
    intro vs H' s ok' ra
    simp only [R.bind] at hq
    by_cases hl : ds.length ≤ sizeLine
    · rw [if_pos hl] at hq
      refine ⟨by rw [ra.length]; exact hl, fun p hp => hq _ _ ?_⟩
      have k : ∀ a o, H' a = some o → upd H' p (.lst vs) a = some o := fun a o e => by rw [upd_ne (ne_of_none e hp)]; exact e
      refine PAl.post s ok' ⟨k, p, rfl, hp, vs, ds, rfl, upd_same, ra.stay ⟨fun a x h e => ?_, fun a x e _ => k a x e⟩⟩
      rcases h with h | h
      · exact h
      · rw [h, hp] at e; cases e
    · rw [if_neg hl] at hq; exact hq.elim
end

/-! ### tests -/
/-- the reading of a test -/
def rdT (K : PySem.W.Frag) (mg : Str → Option Value) (Γ : Fm) (F : Te) : TT := fun σ H Q => ∃ τ, SOk K mg Γ τ σ H ∧ match F τ with
  | .ok b τ' => ∀ H', Step σ τ H σ τ' H' → SOk K mg Γ τ' σ H' → Q b H'
  | .ex e τ' => Γ.xw e τ'
  | .bad => False
def DT (X : Cx) (e : Expr) (F : Te) : Prop := ∀ Γ, PT X e (rdT X.K X.mg Γ F)
def DW (X : Cx) (e : Expr) (F : Te) : Prop := ∀ Γ, PW X e (rdT X.K X.mg Γ F)
theorem pwM {X : Cx} {e : Expr} {t t' : TT} (h : PW X e t) (m : ∀ σ H Q, t' σ H Q → t σ H Q) : PW X e t' := ⟨fun wh pins s σ H Q I q => h.run wh pins s σ H Q I (m _ _ _ q)⟩
section
variable {X : Cx} {a b c e : Expr} {es rest : List Expr} {pos p : Pos} {F G : Ex} {f g : Te}
theorem DW.t (h : DW X e f) : DT X e f := fun Γ => (h Γ).pt
theorem rdT_seq {K : PySem.W.Frag} {mg : Str → Option Value} {Γ : Fm} {σ : L2.St} {H : Hp} {k : Bool → Te} {Q : Bool → Hp → Prop} (h : rdT K mg Γ (fun τ => (f τ).bind k) σ H Q) : rdT K mg Γ f σ H fun b H1 => rdT K mg Γ (k b) σ H1 Q := by
  obtain ⟨τ, ok, h⟩ := h
  refine ⟨τ, ok, ?_⟩
  cases e1 : f τ with
  | bad => simp only [e1] at h; exact h
  | ex e' τ' => simp only [e1] at h; exact h
  | ok b τ1 =>
    simp only [e1, R.bind] at h
    intro H1 s1 ok1
    refine ⟨τ1, ok1, ?_⟩
    cases e2 : k b τ1 with
    | bad => rw [e2] at h; exact h
    | ex e' τ' => rw [e2] at h; exact h
    | ok b' τ2 => rw [e2] at h; exact fun H2 s2 ok2 => h H2 (s1.trans s2) ok2
theorem rdT_ret {K : PySem.W.Frag} {mg : Str → Option Value} {Γ : Fm} {σ : L2.St} {H : Hp} {b : Bool} {Q : Bool → Hp → Prop} (h : rdT K mg Γ (fun τ => .ok b τ) σ H Q) : Q b H := by
  obtain ⟨τ, ok, h⟩ := h
  exact h H .refl ok
theorem rdT_if {K : PySem.W.Frag} {mg : Str → Option Value} {Γ : Fm} {σ : L2.St} {H : Hp} {b : Bool} {Q : Bool → Hp → Prop} (h : rdT K mg Γ (fun τ => if b = true then f τ else g τ) σ H Q) : if b = true then rdT K mg Γ f σ H Q else rdT K mg Γ g σ H Q := by
  cases b with
  | true => exact h
  | false => exact h
theorem dt_not (h : DT X e f) : DT X (.UnaryOp .Not e pos) (tNot f) := fun Γ => ptM (pt_not (h Γ)) fun σ H Q hq => by
  obtain ⟨τ, ok, hq⟩ := rdT_seq (k := fun t τ => .ok (!t) τ) hq
  refine ⟨τ, ok, ?_⟩
  cases e1 : f τ with
  | bad => rw [e1] at hq; exact hq
  | ex e' τ' => rw [e1] at hq; exact hq
  | ok b τ1 => rw [e1] at hq; exact fun H1 s1 ok1 => rdT_ret (hq H1 s1 ok1)
theorem rdT_mono {K : PySem.W.Frag} {mg : Str → Option Value} {Γ : Fm} {σ : L2.St} {H : Hp} {Q Q' : Bool → Hp → Prop} (h : rdT K mg Γ f σ H Q) (m : ∀ b H, Q b H → Q' b H) : rdT K mg Γ f σ H Q' := by
  obtain ⟨τ, ok, h⟩ := h
  refine ⟨τ, ok, ?_⟩
  cases e1 : f τ with
  | bad => rw [e1] at h; exact h
  | ex e' τ' => rw [e1] at h; exact h
  | ok b τ1 => rw [e1] at h; exact fun H1 s1 ok1 => m _ _ (h H1 s1 ok1)
theorem dw_and1 (ha : DT X a f) : DW X (.BoolOp .And [a] pos) f := fun Γ => pw_and1 (ha Γ)
theorem dw_or1 (ha : DT X a f) : DW X (.BoolOp .Or [a] pos) f := fun Γ => pw_or1 (ha Γ)
theorem dw_and (ha : DT X a f) (hb : DW X (.BoolOp .And (b :: rest) pos) g) : DW X (.BoolOp .And (a :: b :: rest) pos) (tAnd f g) := fun Γ => pwM (pw_and (ha Γ) (hb Γ)) fun σ H Q hq =>
  rdT_mono (rdT_seq (k := fun t τ => if t = true then g τ else .ok false τ) hq) fun t H1 h => by
    cases t with
    | true => exact h
    | false => exact rdT_ret h
theorem dw_or (ha : DT X a f) (hb : DW X (.BoolOp .Or (b :: rest) pos) g) : DW X (.BoolOp .Or (a :: b :: rest) pos) (tOr f g) := fun Γ => pwM (pw_or (ha Γ) (hb Γ)) fun σ H Q hq =>
  rdT_mono (rdT_seq (k := fun t τ => if t = true then .ok true τ else g τ) hq) fun t H1 h => by
    cases t with
    | true => exact rdT_ret h
    | false => exact h
/-- a value as a test -/
theorem rd_rdT {K : PySem.W.Frag} {mg : Str → Option Value} {Γ : Fm} {σ : L2.St} {H : Hp} {u : D → Option Bool} {Q : Bool → Hp → Prop} (h : rdT K mg Γ (fun τ => (F τ).bind fun r τ1 => match u r.d with
    | some t => .ok t τ1
    | none => .bad) σ H Q) : rd K mg Γ F σ H fun v H1 => ∃ O d t, Rep K mg O H1 v d ∧ u d = some t ∧ Q t H1 := by
  obtain ⟨τ, ok, h⟩ := h
  refine ⟨τ, ok, ?_⟩
  cases e1 : F τ with
  | bad => simp only [e1] at h; exact h
  | ex e' τ' => simp only [e1] at h; exact h
  | ok r τ1 =>
    simp only [e1, R.bind] at h
    intro v H1 ps
    obtain ⟨s, ok1, rp⟩ := ps.frz ok
    cases e2 : u r.d with
    | none => simp only [e2] at h
    | some t => simp only [e2] at h; exact ⟨_, _, t, rp, e2, h H1 s ok1⟩
theorem bl_read {K : PySem.W.Frag} {mg : Str → Option Value} {Γ : Fm} {σ : L2.St} {H : Hp} {Q : Bool → Hp → Prop} (hq : rdT K mg Γ (tBl F) σ H Q) : rd K mg Γ F σ H fun x H1 => ∃ k, x = .bl k ∧ Q k H1 := by
  have hq' : rdT K mg Γ (fun τ => (F τ).bind fun r τ1 => match (match r.d with | .bl t => some t | _ => none : Option Bool) with
    | some t => .ok t τ1
    | none => .bad) σ H Q := by
    have e : tBl F = (fun τ => (F τ).bind fun r τ1 => match (match r.d with | .bl t => some t | _ => none : Option Bool) with
      | some t => .ok t τ1
      | none => .bad) := by
      funext τ
      unfold tBl
      congr 1
      funext r τ1
      cases r.d <;> rfl
    rw [e] at hq
    exact hq
  obtain ⟨τ, ok, h⟩ := rd_rdT (u := fun d => match d with | .bl t => some t | _ => none) hq'
  refine ⟨τ, ok, fin_mono h fun v H1 ⟨O, d, t, rp, e, q⟩ => ?_⟩
  cases rp <;> cases e
  exact ⟨_, rfl, q⟩
theorem dt_bl (h : DE X e F) (he : ∀ whole, isTrue e X.env whole = (do let v ← whole; standAt e.pos; holding [v] (truthy v)) := by intro _; rfl) : DT X e (tBl F) := fun Γ => ptM (pt_val (h Γ) he) fun σ H Q hq => bl_read hq
/-- a op b as a test -/
theorem dt_cmp {a b : Expr} {A B : Arg} {op : CmpOp} {q : List D → Option RV} (ho : PrimO X (compareOp op) q) (ha : DP X a A) (hb : DP X b B) (hm : behindInMarks op b = false) : DT X (.Compare a [op] [b] pos) (tBl (fPrim q [A, B])) :=
  fun Γ => ptM (pt_cmpR ho (ha Γ) (hb Γ) hm) fun σ H Q hq => prim_two (bl_read hq)
theorem dt_val (h : DE X e F) (he : ∀ whole, isTrue e X.env whole = (do let v ← whole; standAt e.pos; holding [v] (truthy v)) := by intro _; rfl) : DT X e (tVal F) := fun Γ => ptM (pt_truth (h Γ) he) fun σ H Q hq => by
  obtain ⟨τ, ok, h⟩ := rd_rdT (u := truth) hq
  refine ⟨τ, ok, fin_mono h fun v H1 ⟨O, d, t, rp, e, q⟩ => ⟨t, ?_, q⟩⟩
  cases rp with
  | non => cases e; rfl
  | bl b => cases e; rfl
  | int i => cases e; rfl
  | str x =>
    simp only [truth] at e
    by_cases hl : x.length ≤ sizeLine
    · rw [if_pos hl] at e; cases e; exact ⟨hl, rfl⟩
    · rw [if_neg hl] at e; cases e
  | tup h r => cases e; exact .inr (.inl ⟨_, h, by cases r <;> rfl⟩)
  | lst n h r => cases e; exact .inl ⟨_, .inl h, by cases r <;> rfl⟩
  | lstW h1 h2 h3 h4 h5 h6 r => cases e; exact .inl ⟨_, .inr ⟨_, _, _, h1, h2, h3, h4, h5, h6⟩, by cases r <;> rfl⟩
  | dct n h k r => cases e
  | fn h => cases e
end
end Wt
set_option autoImplicit false
set_option Elab.async false
set_option linter.all false
set_option maxRecDepth 100000
/-! Wt.Rules2: branches, and / or, chains; statements. -/
namespace Wt
open PySem PySem.Spec PyProof.Rows L2

section
variable {K : PySem.W.Frag} {mg : Str → Option Value} {Γ : Fm} {τ τ1 τ' : Stt} {σ σ1 σ' : L2.St} {H H1 H' : Hp} {r : RV} {v : V} {Q Q' : VK}
theorem Post.after (s : Step σ τ H σ τ1 H1) (h : Post K mg Γ σ τ1 H1 r τ' v H') : Post K mg Γ σ τ H r τ' v H' := by
  obtain ⟨d, fr⟩ := r
  obtain ⟨s2, h⟩ := h
  refine ⟨s.trans s2, ?_⟩
  cases fr with
  | false => exact h
  | true => obtain ⟨p, e, hp, h⟩ := h; exact ⟨p, e, s.free hp, h⟩
theorem fin_after {x : R RV} (h : fin K mg Γ σ τ H x Q) (s : Step σ τ H σ τ1 H1) : fin K mg Γ σ τ1 H1 x Q := by
  cases x with
  | ok r τ' => exact fun v H' p => h v H' (p.after s)
  | ex e τ' => exact h
  | bad => exact h
/-- one value, then the rest, by the value as it is shared -/
theorem rd_seq {F : Ex} {k : RV → Ex} (h : rd K mg Γ (fun τ => (F τ).bind k) σ H Q) : rd K mg Γ F σ H fun v H1 => ∃ τ1 r, SOk K mg Γ τ1 σ H1 ∧ Rep K mg (Γ.O τ1 σ) H1 v r.d ∧ fin K mg Γ σ τ1 H1 (k r τ1) Q := by
  obtain ⟨τ, ok, h⟩ := h
  refine ⟨τ, ok, ?_⟩
  cases e : F τ with
  | bad => simp only [e] at h; exact h
  | ex e' τ' => simp only [e] at h; exact h
  | ok r τ1 =>
    simp only [e, R.bind] at h
    intro v H1 ps
    obtain ⟨s, ok1, rp⟩ := ps.frz ok
    exact ⟨τ1, r, ok1, rp, fin_after h s⟩
theorem rd_mono {F : Ex} (h : rd K mg Γ F σ H Q) (m : ∀ v H', Q v H' → Q' v H') : rd K mg Γ F σ H Q' := by
  obtain ⟨τ, ok, h⟩ := h
  exact ⟨τ, ok, fin_mono h m⟩
theorem rdT_rd {f : Te} {k : Bool → Ex} (h : rd K mg Γ (fun τ => (f τ).bind k) σ H Q) : rdT K mg Γ f σ H fun b H1 => ∃ τ1, SOk K mg Γ τ1 σ H1 ∧ fin K mg Γ σ τ1 H1 (k b τ1) Q := by
  obtain ⟨τ, ok, h⟩ := h
  refine ⟨τ, ok, ?_⟩
  cases e : f τ with
  | bad => simp only [e] at h; exact h
  | ex e' τ' => simp only [e] at h; exact h
  | ok b τ1 =>
    simp only [e, R.bind] at h
    exact fun H1 s ok1 => ⟨τ1, ok1, fin_after h s⟩
theorem fin_ok {d : D} (h : fin K mg Γ σ τ H (.ok ⟨d, false⟩ τ) Q) (ok : SOk K mg Γ τ σ H) (rp : Rep K mg (Γ.O τ σ) H v d) : Q v H := h v H ⟨.refl, ok, rp⟩
end

section
variable {X : Cx} {a b c e : Expr} {es rest : List Expr} {pos p : Pos} {F G : Ex} {f g : Te} {A B C : Arg}
theorem de_if (hc : DT X c f) (ha : DE X a F) (hb : DE X b G) : DE X (.IfExp c a b pos) (fIf f F G) := fun Γ => peM (pe_ifExp (hc Γ) (ha Γ) (hb Γ)) fun σ H Q hq =>
  rdT_mono (rdT_rd (k := fun t τ => if t = true then F τ else G τ) hq) fun t H1 ⟨τ1, ok, h⟩ => by
    cases t with
    | true => exact ⟨τ1, ok, h⟩
    | false => exact ⟨τ1, ok, h⟩
theorem de_not (h : DE X e F) : DE X (.UnaryOp .Not e pos) (fNot (tBl F)) := fun Γ => peM (pe_not (h Γ)) fun σ H Q hq => by
  have hq' : rd X.K X.mg Γ (fun τ => (F τ).bind fun r τ1 => match r.d with | .bl t => .ok ⟨.bl (!t), false⟩ τ1 | _ => .bad) σ H Q := by
    have e : fNot (tBl F) = (fun τ => (F τ).bind fun r τ1 => match r.d with | .bl t => .ok ⟨.bl (!t), false⟩ τ1 | _ => .bad) := by
      funext τ
      unfold fNot tBl
      cases F τ with
      | bad => rfl
      | ex e τ' => rfl
      | ok r τ1 => simp only [R.bind]; cases r.d <;> rfl
    rw [e] at hq
    exact hq
  refine rd_mono (rd_seq hq') fun v H1 ⟨τ1, r, ok, rp, h⟩ => ?_
  obtain ⟨d, fr⟩ := r
  cases d with
  | bl t => cases rp; exact ⟨t, rfl, fin_ok h ok (.bl _)⟩
  | _ => exact False.elim h
theorem de_one {op : BoolOp} (h : DE X a F) : DE X (.BoolOp op [a] pos) F := fun Γ => pe_one (h Γ)
theorem de_and (ha : DE X a F) (hb : DE X (.BoolOp .And (b :: rest) pos) G) : DE X (.BoolOp .And (a :: b :: rest) pos) (fAnd F G) := fun Γ => peM (pe_and (ha Γ) (hb Γ)) fun σ H Q hq => by
  refine rd_mono (rd_seq hq) fun v H1 ⟨τ1, r, ok, rp, h⟩ => ?_
  obtain ⟨d, fr⟩ := r
  cases d with
  | bl t =>
    cases rp
    refine ⟨t, rfl, ?_⟩
    cases t with
    | true => exact ⟨τ1, ok, h⟩
    | false => exact fin_ok h ok (.bl _)
  | _ => exact False.elim h
theorem de_or (ha : DE X a F) (hb : DE X (.BoolOp .Or (b :: rest) pos) G) : DE X (.BoolOp .Or (a :: b :: rest) pos) (fOr F G) := fun Γ => peM (pe_or (ha Γ) (hb Γ)) fun σ H Q hq => by
  refine rd_mono (rd_seq hq) fun v H1 ⟨τ1, r, ok, rp, h⟩ => ?_
  obtain ⟨d, fr⟩ := r
  cases d with
  | bl t =>
    cases rp
    refine ⟨t, rfl, ?_⟩
    cases t with
    | true => exact fin_ok h ok (.bl _)
    | false => exact ⟨τ1, ok, h⟩
  | _ => exact False.elim h
theorem rep_two {K : PySem.W.Frag} {mg : Str → Option Value} {O : As} {H : Hp} {x y : V} {d e : D} (a : Rep K mg O H x d) (b : Rep K mg O H y e) : RepTA K mg O H [x, y] [d, e] := .cons (.rep a) (.cons (.rep b) .nil)
theorem chain_rd {K : PySem.W.Frag} {mg : Str → Option Value} {Γ : Fm} {σ : L2.St} {H : Hp} {Q : VK} {F G I : Ex} {q q' : List D → Option RV} (h : rd K mg Γ (fChain q q' F G I) σ H Q) :
    tChain (fun x y H Q => PrimR K mg q [x, y] H Q) (fun x y H Q => PrimR K mg q' [x, y] H Q) (rd K mg Γ F) (rd K mg Γ G) (rd K mg Γ I) σ H Q := by
  refine rd_mono (rd_seq h) fun x H1 ⟨τ1, r1, ok1, rp1, h1⟩ => ?_
  have h1' : rd K mg Γ G σ H1 fun v H2 => ∃ (τ2 : Stt) (r : RV), Step σ τ1 H1 σ τ2 H2 ∧ SOk K mg Γ τ2 σ H2 ∧ Rep K mg (Γ.O τ2 σ) H2 v r.d ∧ fin K mg Γ σ τ2 H2 (match q [r1.d, r.d] with
      | some ⟨.bl true, false⟩ => (I τ2).bind fun z σ3 => match q' [r.d, z.d] with
        | some r => .ok r σ3
        | none => .bad
      | some ⟨.bl false, false⟩ => .ok ⟨.bl false, false⟩ τ2
      | _ => .bad) Q := by
    refine ⟨τ1, ok1, ?_⟩
    cases e : G τ1 with
    | bad => simp only [e] at h1; exact h1
    | ex e' τ' => simp only [e] at h1; exact h1
    | ok r τ2 =>
      simp only [e, R.bind] at h1
      intro v H2 ps
      obtain ⟨s, ok2, rp⟩ := ps.frz ok1
      exact ⟨τ2, r, s, ok2, rp, fin_after h1 s⟩
  refine rd_mono h1' fun y H2 ⟨τ2, r2, s2, ok2, rp2, h2⟩ => ?_
  have rx := rp1.stay (s2.stay ok1)
  cases e : q [r1.d, r2.d] with
  | none => simp only [e] at h2; exact h2.elim
  | some z =>
    simp only [e] at h2
    refine ⟨_, _, z, rep_two rx rp2, e, fun v H3 pa => ?_⟩
    obtain ⟨zd, zf⟩ := z
    cases zf with
    | true => cases zd <;> (first | exact False.elim h2 | (rename_i t; cases t <;> exact False.elim h2))
    | false =>
      cases zd <;> (try exact False.elim h2)
      rename_i t
      obtain ⟨k, rv⟩ := pa
      cases rv
      refine ⟨t, rfl, ?_⟩
      have s3 : Step σ τ2 H2 σ τ2 H3 := .grow k
      have ok3 := ok2.grow k
      have h3 := fin_after h2 s3
      cases t with
      | false => exact fin_ok h3 ok3 (.bl _)
      | true =>
        rw [if_pos rfl]
        have rp3 := rp2.stay (s3.stay ok2)
        refine ⟨τ2, ok3, ?_⟩
        cases e : I τ2 with
        | bad => simp only [e] at h3; exact h3
        | ex e' τ' => simp only [e] at h3; exact h3
        | ok r3 τ3 =>
          simp only [e, R.bind] at h3
          intro w H4 ps
          obtain ⟨s, ok4, rp4⟩ := ps.frz ok3
          cases e2 : q' [r2.d, r3.d] with
          | none => simp only [e2] at h3; exact h3.elim
          | some r4 =>
            simp only [e2] at h3
            exact ⟨_, _, r4, rep_two (rp3.stay (s.stay ok3)) rp4, e2, fun v5 H5 pa => h3 v5 H5 (pa.post s ok4)⟩
theorem de_chain {op op' : CmpOp} {q q' : List D → Option RV} {I : Ex} (ho : PrimO X (compareOp op) q) (ho' : PrimO X (compareOp op') q') (ha : DE X a F) (hb : DE X b G) (hc : DE X c I)
    (hm : lastMarks [op, op'] [b, c] = false := by with_unfolding_all rfl) : DE X (.Compare a [op, op'] [b, c] pos) (fChain q q' F G I) := fun Γ => peM (pe_chain ho ho' (ha Γ) (hb Γ) (hc Γ) hm) fun σ H Q hq => chain_rd hq
theorem dt_chain {op op' : CmpOp} {q q' : List D → Option RV} {I : Ex} (ho : PrimO X (compareOp op) q) (ho' : PrimO X (compareOp op') q') (ha : DE X a F) (hb : DE X b G) (hc : DE X c I)
    (hm : lastMarks [op, op'] [b, c] = false := by with_unfolding_all rfl) : DT X (.Compare a [op, op'] [b, c] pos) (tBl (fChain q q' F G I)) := fun Γ => ptM (pt_chain ho ho' (ha Γ) (hb Γ) (hc Γ) hm) fun σ H Q hq => chain_rd (bl_read hq)
end
end Wt
set_option autoImplicit false
set_option Elab.async false
set_option linter.all false
set_option maxRecDepth 100000
/-! Wt.Stmt: statements. -/
namespace Wt
open PySem PySem.Spec PyProof.Rows L2

section
variable (K : PySem.W.Frag) (mg : Str → Option Value)
/-- what is handed back -/
def PostR (Γ : Fm) (r : RV) (τ' : Stt) (σ' : L2.St) (v : V) (H' : Hp) : Prop := match r.fr with
  | false => SOk K mg Γ τ' σ' H' ∧ Rep K mg (Γ.O τ' σ') H' v r.d
  | true => ∃ p, v = .ref p ∧ Γ.H0 p = none ∧ SOk K mg (Γ.add p) τ' σ' H' ∧ OwnC K mg ((Γ.add p).O τ' σ') H' p r.d
def SFin (Γ : Fm) (τ : Stt) (σ : L2.St) (H : Hp) (r : R Fl) (D : Ends) : Prop := match r with
  | .ok .nx τ' => ∀ σ' H', Step σ τ H σ' τ' H' → SOk K mg Γ τ' σ' H' → D.nx σ' H'
  | .ok .bk τ' => ∀ σ' H', Step σ τ H σ' τ' H' → SOk K mg Γ τ' σ' H' → D.bk σ' H'
  | .ok .ct τ' => ∀ σ' H', Step σ τ H σ' τ' H' → SOk K mg Γ τ' σ' H' → D.ct σ' H'
  | .ok (.rt r) τ' => ∀ v σ' H', PostR K mg Γ r τ' σ' v H' → D.rt v H'
  | .ex e τ' => Γ.xw e τ'
  | .bad => False
def rdS (Γ : Fm) (F : Sm) : TS := fun D σ H => ∃ τ, SOk K mg Γ τ σ H ∧ SFin K mg Γ τ σ H (F τ) D
end
def DS (X : Cx) (s : Stmt) (F : Sm) : Prop := ∀ Γ, PS X s (rdS X.K X.mg Γ F)
def DSs (X : Cx) (s : List Stmt) (F : Sm) : Prop := ∀ Γ, PSs X s (rdS X.K X.mg Γ F)
theorem psM {X : Cx} {s : Stmt} {t t' : TS} (h : PS X s t) (m : ∀ D σ H, t' D σ H → t D σ H) : PS X s t' := ⟨fun pins s σ H D I q => h.run pins s σ H D I (m _ _ _ q)⟩
theorem pssM {X : Cx} {s : List Stmt} {t t' : TS} (h : PSs X s t) (m : ∀ D σ H, t' D σ H → t D σ H) : PSs X s t' := ⟨fun pins s σ H D I q => h.run pins s σ H D I (m _ _ _ q)⟩

section
variable {K : PySem.W.Frag} {mg : Str → Option Value} {Γ : Fm} {τ τ1 τ' : Stt} {σ σ1 σ' : L2.St} {H H1 H' : Hp} {r : RV} {v : V} {N N' : Ends}
theorem SFin.after {x : R Fl} (h : SFin K mg Γ τ σ H x N) (s : Step σ τ H σ1 τ1 H1) : SFin K mg Γ τ1 σ1 H1 x N := by
  match x, h with
  | .ok .nx τ', h => exact fun σ' H' s' ok => h σ' H' (s.trans s') ok
  | .ok .bk τ', h => exact fun σ' H' s' ok => h σ' H' (s.trans s') ok
  | .ok .ct τ', h => exact fun σ' H' s' ok => h σ' H' (s.trans s') ok
  | .ok (.rt r) τ', h => exact h
  | .ex e τ', h => exact h
/-- a fresh value's address was free at the entry -/
theorem SOk.free0 {p : Addr} (ok : SOk K mg Γ τ σ H) (hp : H p = none) : Γ.H0 p = none := by
  cases e : Γ.H0 p with
  | none => rfl
  | some o =>
    have := ok.fr p o e (ok.noL hp)
    rw [hp] at this; cases this
theorem SOk.freeB {p : Addr} (ok : SOk K mg Γ τ σ H) (hp : H p = none) : ¬ Γ.B p := fun z => by
  obtain ⟨o, e⟩ := ok.bt p z
  rw [hp] at e; cases e
theorem Post.ret (ok : SOk K mg Γ τ σ H) (h : Post K mg Γ σ τ H r τ' v H') : PostR K mg Γ r τ' σ v H' := by
  obtain ⟨d, fr⟩ := r
  obtain ⟨s, h⟩ := h
  cases fr with
  | false => exact h
  | true => obtain ⟨p, e, hp, h⟩ := h; exact ⟨p, e, ok.free0 hp, h⟩

/-! ### a name is stored -/
theorem get_set2 {α : Type} {l : List α} {i j : Nat} {x y : α} (e : (l.set i x)[j]? = some y) : (j = i ∧ y = x) ∨ (j ≠ i ∧ l[j]? = some y) := by
  by_cases hj : i = j
  · subst hj
    by_cases hl : i < l.length
    · rw [List.getElem?_set_self hl] at e
      cases e; exact .inl ⟨rfl, rfl⟩
    · rw [List.getElem?_eq_none (by rw [List.length_set]; omega)] at e; cases e
  · rw [List.getElem?_set_ne hj] at e
    exact .inr ⟨fun z => hj z.symm, e⟩
/-- the slot at i takes the value v, of the sort s; O2: the addresses kept apart ahead of it -/
theorem SOk.store {i : Nat} {s0 s : Sl} {B2 : As} (ok : SOk K mg { Γ with B := B2 } τ σ H) (hi : τ[i]? = some s0) (h0 : s0 = .no ∨ (∃ d, s0 = .fz d) ∨ ∃ d, s0 = .ow d)
    (hB : ∀ a, Γ.B a → B2 a) (hL : ∀ a, Γ.L a → Γ.B a)
    (hB2 : ∀ a, B2 a → Γ.B a ∨ (v = .ref a ∧ ∃ d, s = .ow d))
    (hv : match s with
      | .fz d => Rep K mg (fun a => B2 a ∨ ownS τ σ a) H v d
      | .ow d => ∃ p, v = .ref p ∧ Γ.H0 p = none ∧ ¬ Γ.B p ∧ B2 p ∧ OwnC K mg (fun a => B2 a ∨ ownS τ σ a) H p d
      | _ => False) : SOk K mg Γ (τ.set i s) (σ.set i (some v)) H ∧ ∀ a, (ownS (τ.set i s) (σ.set i (some v)) a → ownS τ σ a ∨ (B2 a ∧ ¬ Γ.B a)) ∧ (mutS (τ.set i s) (σ.set i (some v)) a → mutS τ σ a ∨ (B2 a ∧ ¬ Γ.B a)) := by
  have hlt : i < τ.length := (List.getElem?_eq_some_iff.mp hi).1
  have hlt' : i < σ.length := by rw [← ok.len]; exact hlt
  -- a slot that is held ahead and is not i
  have heldOf : ∀ j t, (τ.set i s)[j]? = some t → held t → j ≠ i → τ[j]? = some t := fun j t e _ nj => (get_set2 e).elim (fun z => absurd z.1 nj) (·.2)
  have old : ∀ j, j ≠ i → (σ.set i (some v))[j]? = σ[j]? := fun j nj => List.getElem?_set_ne (Ne.symm nj)
  have own2 : ∀ a, ownS (τ.set i s) (σ.set i (some v)) a → ownS τ σ a ∨ (B2 a ∧ ¬ Γ.B a) := fun a ⟨j, d, h, e⟩ => by
    have h' : ∃ t, (t = Sl.ow d ∨ t = Sl.lk d false) ∧ (τ.set i s)[j]? = some t := h.elim (fun h => ⟨_, .inl rfl, h⟩) fun h => ⟨_, .inr rfl, h⟩
    obtain ⟨t, ht, h'⟩ := h'
    rcases get_set2 h' with ⟨rfl, e2⟩ | ⟨nj, e2⟩
    · subst e2
      rw [List.getElem?_set_self hlt'] at e
      cases e
      rcases ht with rfl | rfl
      · obtain ⟨p, e3, h1, h2, h3, _⟩ := hv
        cases e3
        exact .inr ⟨h3, h2⟩
      · exact hv.elim
    · rw [old j nj] at e
      exact .inl ⟨j, d, ht.elim (fun q => .inl (q ▸ e2)) (fun q => .inr (q ▸ e2)), e⟩
  have mut2 : ∀ a, mutS (τ.set i s) (σ.set i (some v)) a → mutS τ σ a ∨ (B2 a ∧ ¬ Γ.B a) := fun a ⟨j, d, h, e⟩ => by
    have h' : ∃ t, (t = Sl.ow d ∨ t = Sl.ln d) ∧ (τ.set i s)[j]? = some t := h.elim (fun h => ⟨_, .inl rfl, h⟩) fun h => ⟨_, .inr rfl, h⟩
    obtain ⟨t, ht, h'⟩ := h'
    rcases get_set2 h' with ⟨rfl, e2⟩ | ⟨nj, e2⟩
    · subst e2
      rw [List.getElem?_set_self hlt'] at e
      cases e
      rcases ht with rfl | rfl
      · obtain ⟨p, e3, h1, h2, h3, _⟩ := hv
        cases e3
        exact .inr ⟨h3, h2⟩
      · exact hv.elim
    · rw [old j nj] at e
      exact .inl ⟨j, d, ht.elim (fun q => .inl (q ▸ e2)) (fun q => .inr (q ▸ e2)), e⟩
  have hO : ∀ a, Γ.O (τ.set i s) (σ.set i (some v)) a → B2 a ∨ ownS τ σ a := fun a h => h.elim (fun z => .inl (hB a z)) fun z => (own2 a z).elim .inr fun z => .inl z.1
  have hC : ∀ {a d}, OwnC K mg (fun a => B2 a ∨ ownS τ σ a) H a d → OwnC K mg (Γ.O (τ.set i s) (σ.set i (some v))) H a d := fun ⟨xs, ds, e1, e2, r⟩ => ⟨xs, ds, e1, e2, r.weak hO⟩
  have nB : ∀ {a}, ¬ B2 a → ¬ Γ.B a := fun n z => n (hB _ z)
  have lB : ∀ {a}, Γ.L a ∧ B2 a → Γ.L a ∧ Γ.B a := fun ⟨h1, _⟩ => ⟨h1, hL _ h1⟩
  refine ⟨⟨by rw [List.length_set, List.length_set]; exact ok.len, fun j t e => ?_, fun j k t u p e1 h1 e2 h2 e3 e4 => ?_, ok.fr, fun a h => ok.bt a (hB a h), hL, fun j t q e1 h1 e2 hl => ?_, fun j a e => ?_⟩, fun a => ⟨own2 a, mut2 a⟩⟩
  · rcases get_set2 e with ⟨rfl, rfl⟩ | ⟨nj, e2⟩
    · rw [List.getElem?_set_self hlt']
      cases t with
      | no => trivial
      | fz d => exact ⟨v, rfl, hv.weak hO⟩
      | ow d => obtain ⟨p, rfl, h1, h2, _, c⟩ := hv; exact ⟨p, rfl, ⟨h1, h2⟩, hC c⟩
      | ln d => exact hv.elim
      | lk d l => exact hv.elim
    · rw [old j nj]
      have q := ok.sl j t e2
      cases t with
      | no => trivial
      | fz d => obtain ⟨v, e, r⟩ := q; exact ⟨v, e, r.weak hO⟩
      | ow d => obtain ⟨a, e, ⟨h1, h2⟩, c⟩ := q; exact ⟨a, e, ⟨h1, nB h2⟩, hC c⟩
      | ln d => obtain ⟨a, e, h, c⟩ := q; exact ⟨a, e, lB h, hC c⟩
      | lk d l => obtain ⟨a, e, h, c⟩ := q; exact ⟨a, e, h.elim (fun h => .inl ⟨h.1, h.2.1, nB h.2.2⟩) fun h => .inr ⟨h.1, lB h.2⟩, hC c⟩
  · -- no two held slots at one address
    have main : ∀ j k t u p, (τ.set i s)[j]? = some t → held t → (τ.set i s)[k]? = some u → held u → (σ.set i (some v))[j]? = some (some (.ref p)) → (σ.set i (some v))[k]? = some (some (.ref p)) → j = i → k ≠ i → False := by
      intro j k t u p e1 h1 e2 h2 e3 e4 hj hk
      subst hj
      rcases get_set2 e1 with ⟨_, e1⟩ | ⟨z, _⟩
      · subst e1
        rw [List.getElem?_set_self hlt'] at e3
        cases e3
        have e2' := heldOf k u e2 h2 hk
        rw [old k hk] at e4
        cases t with
        | no => exact h1
        | fz d => exact h1
        | ln d => exact hv
        | lk d l => exact hv
        | ow d =>
          obtain ⟨p', e5, h3, h4, h5, _⟩ := hv
          cases e5
          have q := ok.sl k u e2'
          cases u with
          | no => exact h2
          | fz d => exact h2
          | ow d => obtain ⟨a, e, ⟨_, n⟩, _⟩ := q; rw [e4] at e; cases e; exact n h5
          | ln d => obtain ⟨a, e, ⟨n, _⟩, _⟩ := q; rw [e4] at e; cases e; exact h4 (hL _ n)
          | lk d l =>
            obtain ⟨a, e, n, _⟩ := q; rw [e4] at e; cases e
            rcases n with ⟨_, _, n⟩ | ⟨_, n, _⟩
            · exact n h5
            · exact h4 (hL _ n)
      · exact z rfl
    by_cases hj : j = i
    · by_cases hk : k = i
      · rw [hj, hk]
      · exact (main j k t u p e1 h1 e2 h2 e3 e4 hj hk).elim
    · by_cases hk : k = i
      · exact (main k j u t p e2 h2 e1 h1 e4 e3 hk hj).elim
      · rw [old j hj] at e3
        rw [old k hk] at e4
        exact ok.dist j k t u p (heldOf j t e1 h1 hj) h1 (heldOf k u e2 h2 hk) h2 e3 e4
  · by_cases hj : j = i
    · subst hj
      rcases get_set2 e1 with ⟨_, e3⟩ | ⟨z, _⟩
      · subst e3
        rw [List.getElem?_set_self hlt'] at e2
        cases e2
        cases t with
        | no => exact h1.elim
        | fz d => exact h1.elim
        | ln d => exact hv.elim
        | lk d l => exact hv.elim
        | ow d =>
          obtain ⟨p', e5, h3, h4, _⟩ := hv
          cases e5
          exact absurd (hL _ hl) h4
      · exact absurd rfl z
    · rw [old j hj] at e2
      exact ok.la j t q (heldOf j t e1 h1 hj) h1 e2 hl
  · obtain ⟨h1, d', l, h2⟩ := ok.pn j a e
    have nj : j ≠ i := fun z => by
      subst z
      rw [hi] at h2
      cases h2
      rcases h0 with h0 | ⟨_, h0⟩ | ⟨_, h0⟩ <;> cases h0
    exact ⟨by rw [old j nj]; exact h1, d', l, by rw [List.getElem?_set_ne (Ne.symm nj)]; exact h2⟩
/-- a value that is shared is stored -/
theorem SOk.store_fz {i : Nat} {s0 : Sl} {d : D} (ok : SOk K mg Γ τ σ H) (hi : τ[i]? = some s0) (h0 : s0 = .no ∨ (∃ d, s0 = .fz d) ∨ ∃ d, s0 = .ow d) (hv : Rep K mg (Γ.O τ σ) H v d) :
    SOk K mg Γ (τ.set i (.fz d)) (σ.set i (some v)) H ∧ Step σ τ H (σ.set i (some v)) (τ.set i (.fz d)) H := by
  obtain ⟨h1, h2⟩ := SOk.store (Γ := Γ) (B2 := Γ.B) (s := .fz d) ok hi h0 (fun _ z => z) ok.lb (fun a z => .inl z) hv
  exact ⟨h1, fun a _ z _ => ((h2 a).1 z).elim id fun z => absurd z.1 z.2, fun a _ z _ => ((h2 a).2 z).elim id fun z => absurd z.1 z.2, fun _ _ h _ => h, fun _ x h => ⟨x, h⟩⟩
/-- what storeS says -/
theorem storeS_ok {i : Nat} {τ2 : Stt} (ok : SOk K mg Γ τ σ H) (ps : Post K mg Γ σ τ H r τ1 v H1) (h : storeS i r τ1 = some τ2) : SOk K mg Γ τ2 (σ.set i (some v)) H1 ∧ Step σ τ H (σ.set i (some v)) τ2 H1 := by
  have fz : ∀ s0, τ1[i]? = some s0 → (s0 = .no ∨ (∃ d, s0 = .fz d) ∨ ∃ d, s0 = .ow d) → SOk K mg Γ (τ1.set i (.fz r.d)) (σ.set i (some v)) H1 ∧ Step σ τ H (σ.set i (some v)) (τ1.set i (.fz r.d)) H1 := fun s0 e h0 => by
    obtain ⟨s, ok1, rp⟩ := ps.frz ok
    obtain ⟨ok2, s2⟩ := ok1.store_fz e h0 rp
    exact ⟨ok2, s.trans s2⟩
  have ow : ∀ s0 ds, τ1[i]? = some s0 → (s0 = .no ∨ (∃ d, s0 = .fz d) ∨ ∃ d, s0 = .ow d) → r.fr = true → r.d = .lst ds → SOk K mg Γ (τ1.set i (.ow (.lst ds))) (σ.set i (some v)) H1 ∧ Step σ τ H (σ.set i (some v)) (τ1.set i (.ow (.lst ds))) H1 := fun s0 ds e h0 hf hd => by
    obtain ⟨d, fr⟩ := r
    cases hf
    cases hd
    obtain ⟨s, p, rfl, hp, ok1, c⟩ := ps
    obtain ⟨h1, h2⟩ := SOk.store (Γ := Γ) (B2 := (Γ.add p).B) (s := .ow (.lst ds)) (v := .ref p) ok1 e h0 (fun _ z => .inl z) ok.lb (fun a z => z.elim .inl fun z => .inr ⟨by rw [z], _, rfl⟩) ⟨p, rfl, ok.free0 hp, ok.freeB hp, .inr rfl, c⟩
    have tr : ∀ a x, H a = some x → ((Γ.add p).B a ∧ ¬ Γ.B a) → False := fun a x e z => by
      rcases z.1 with w | w
      · exact z.2 w
      · rw [w, hp] at e; cases e
    exact ⟨h1, fun a x z e => ((h2 a).1 z).elim (fun z => s.o a x z e) fun z => (tr a x e z).elim, fun a x z e => ((h2 a).2 z).elim (fun z => s.m a x z e) fun z => (tr a x e z).elim, s.k, s.t⟩
  unfold storeS at h
  cases e : τ1[i]? with
  | none => rw [e] at h; cases h
  | some s0 =>
    rw [e] at h
    have go : ∀ (h0 : s0 = .no ∨ (∃ d, s0 = .fz d) ∨ ∃ d, s0 = .ow d), some (τ1.set i (match r.fr, r.d with | true, .lst ds => .ow (.lst ds) | _, d => .fz d)) = some τ2 → SOk K mg Γ τ2 (σ.set i (some v)) H1 ∧ Step σ τ H (σ.set i (some v)) τ2 H1 := fun h0 h => by
      have h := Option.some.inj h
      subst h
      cases hf : r.fr with
      | false => exact fz s0 e h0
      | true =>
        cases hd : r.d with
        | lst ds => exact ow s0 ds e h0 hf hd
        | _ => (have q := fz s0 e h0; rw [hd] at q; exact q)
    cases s0 with
    | no => exact go (.inl rfl) h
    | fz d => exact go (.inr (.inl ⟨d, rfl⟩)) h
    | ow d => exact go (.inr (.inr ⟨d, rfl⟩)) h
    | ln d => cases h
    | lk d l => cases h
end

/-! ### the rules -/
section
variable {X : Cx} {e c : Expr} {a b rest : List Stmt} {st : Stmt} {pos p : Pos} {F : Ex} {f g : Sm} {t : Te} {x : Str} {i : Nat} {pos' : Pos}
theorem set_rd {K : PySem.W.Frag} {mg : Str → Option Value} {Γ : Fm} {σ : L2.St} {H : Hp} {N : Ends} (hq : rdS K mg Γ (sSet i F) N σ H) : rd K mg Γ F σ H fun v H1 => N.nx (σ.set i (some v)) H1 := by
  obtain ⟨τ, ok, hq⟩ := hq
  refine ⟨τ, ok, ?_⟩
  unfold sSet at hq
  cases e1 : F τ with
  | bad => rw [e1] at hq; exact hq
  | ex e' τ' => rw [e1] at hq; exact hq
  | ok r τ1 =>
    simp only [e1, R.bind] at hq
    intro v H1 ps
    cases e2 : storeS i r τ1 with
    | none => rw [e2] at hq; exact hq.elim
    | some τ2 =>
      rw [e2] at hq
      obtain ⟨ok2, s2⟩ := storeS_ok ok ps e2
      exact hq _ H1 s2 ok2
theorem ds_set (hN : X.N.Nodup) (hi : X.N[i]? = some x) (hx : Loc X.env.scope x) (he : DE X e F) (hs : swapsWith e (some (.Name x pos')) pos.line X.env = pure false := by rfl) (hf : X.fn x = true ∨ X.env.scope.names.lookup x = some .local := by first | exact .inl rfl | exact .inr rfl | assumption) :
    DS X (.Assign [.Name x pos'] e pos) (sSet i F) := fun Γ => psM (ps_set hN hi hx (he Γ) hs hf) fun N σ H hq => set_rd hq
theorem ds_expr (he : DE X e F) (hs : swapsWith e none pos.line X.env = pure false := by rfl) : DS X (.Expr e pos) (sExpr F) := fun Γ => psM (ps_expr (he Γ) hs) fun N σ H hq => by
  obtain ⟨τ, ok, hq⟩ := hq
  refine ⟨τ, ok, ?_⟩
  unfold sExpr at hq
  cases e1 : F τ with
  | bad => rw [e1] at hq; exact hq
  | ex e' τ' => rw [e1] at hq; exact hq
  | ok r τ1 =>
    simp only [e1, R.bind] at hq
    intro v H1 ps
    obtain ⟨s, ok1, _⟩ := ps.frz ok
    exact hq σ H1 s ok1
theorem ds_ret (he : DE X e F) : DS X (.Return (some e) pos) (sRet F) := fun Γ => psM (ps_ret (he Γ)) fun N σ H hq => by
  obtain ⟨τ, ok, hq⟩ := hq
  refine ⟨τ, ok, ?_⟩
  unfold sRet at hq
  cases e1 : F τ with
  | bad => rw [e1] at hq; exact hq
  | ex e' τ' => rw [e1] at hq; exact hq
  | ok r τ1 =>
    simp only [e1, R.bind] at hq
    exact fun v H1 ps => hq v σ H1 (ps.ret ok)
theorem ds_retN : DS X (.Return none pos) sRetN := fun Γ => psM ps_retN fun N σ H hq => by
  obtain ⟨τ, ok, hq⟩ := hq
  exact hq .non σ H ⟨ok, .non⟩
/-- the slot at i forgotten -/
theorem SOk.forget {K : PySem.W.Frag} {mg : Str → Option Value} {Γ : Fm} {τ : Stt} {σ : L2.St} {H : Hp} (ok : SOk K mg Γ τ σ H) (i : Nat) {d0 : D} (hi : τ[i]? = some (.ow d0)) : SOk K mg Γ (τ.set i .no) σ H ∧ (∀ a, ownS (τ.set i .no) σ a → ownS τ σ a) ∧ Step σ τ H σ (τ.set i .no) H := by
  have ow : ∀ a, ownS (τ.set i .no) σ a → ownS τ σ a := fun a ⟨j, d, h, e⟩ => by
    rcases h with h | h
    · rcases get_set2 h with ⟨_, z⟩ | ⟨_, z⟩
      · cases z
      · exact ⟨j, d, .inl z, e⟩
    · rcases get_set2 h with ⟨_, z⟩ | ⟨_, z⟩
      · cases z
      · exact ⟨j, d, .inr z, e⟩
  have mt : ∀ a, mutS (τ.set i .no) σ a → mutS τ σ a := fun a ⟨j, d, h, e⟩ => by
    rcases h with h | h
    · rcases get_set2 h with ⟨_, z⟩ | ⟨_, z⟩
      · cases z
      · exact ⟨j, d, .inl z, e⟩
    · rcases get_set2 h with ⟨_, z⟩ | ⟨_, z⟩
      · cases z
      · exact ⟨j, d, .inr z, e⟩
  have hO : ∀ a, Γ.O (τ.set i .no) σ a → Γ.O τ σ a := fun a h => h.elim .inl fun z => .inr (ow a z)
  have hC : ∀ {a d}, OwnC K mg (Γ.O τ σ) H a d → OwnC K mg (Γ.O (τ.set i .no) σ) H a d := fun ⟨xs, ds, e1, e2, r⟩ => ⟨xs, ds, e1, e2, r.weak hO⟩
  refine ⟨⟨by rw [List.length_set]; exact ok.len, fun j t e => ?_, fun j k t u p e1 h1 e2 h2 e3 e4 => ?_, ok.fr, ok.bt, ok.lb, fun j t q e1 h1 e2 => ?_, fun j a e => ?_⟩, ow, fun a _ z _ => ow a z, fun a _ z _ => mt a z, fun _ _ h _ => h, fun _ x h => ⟨x, h⟩⟩
  · rcases get_set2 e with ⟨_, rfl⟩ | ⟨_, e2⟩
    · trivial
    · have q := ok.sl j t e2
      cases t with
      | no => trivial
      | fz d => obtain ⟨v, e, r⟩ := q; exact ⟨v, e, r.weak hO⟩
      | ow d => obtain ⟨a, e, h, c⟩ := q; exact ⟨a, e, h, hC c⟩
      | ln d => obtain ⟨a, e, h, c⟩ := q; exact ⟨a, e, h, hC c⟩
      | lk d l => obtain ⟨a, e, h, c⟩ := q; exact ⟨a, e, h, hC c⟩
  · rcases get_set2 e1 with ⟨_, rfl⟩ | ⟨_, e1⟩
    · exact h1.elim
    · rcases get_set2 e2 with ⟨_, rfl⟩ | ⟨_, e2⟩
      · exact h2.elim
      · exact ok.dist j k t u p e1 h1 e2 h2 e3 e4
  · rcases get_set2 e1 with ⟨_, rfl⟩ | ⟨_, e1⟩
    · exact h1.elim
    · exact ok.la j t q e1 h1 e2
  · obtain ⟨h1, d', l, h2⟩ := ok.pn j a e
    refine ⟨h1, d', l, ?_⟩
    have : i ≠ j := fun z => by subst z; rw [hi] at h2; cases h2
    rw [List.getElem?_set_ne this]; exact h2
theorem ds_retV (h : PE X e (tVar i)) : DS X (.Return (some e) pos) (sRetV i) := fun Γ => psM (ps_ret h) fun N σ H hq => by
  obtain ⟨τ, ok, hq⟩ := hq
  unfold sRetV at hq
  cases e1 : τ[i]? with
  | none => rw [e1] at hq; exact hq.elim
  | some s =>
    rw [e1] at hq
    cases s with
    | no => exact hq.elim
    | ln d => exact hq.elim
    | lk d l => exact hq.elim
    | fz d =>
      obtain ⟨v, e2, r⟩ := ok.sl i _ e1
      exact ⟨v, e2, hq v σ H ⟨ok, r⟩⟩
    | ow d =>
      obtain ⟨p, e2, ⟨h1, h2⟩, c⟩ := ok.sl i _ e1
      refine ⟨_, e2, hq _ σ H ⟨p, rfl, h1, ?_⟩⟩
      obtain ⟨ok2, ow, _⟩ := ok.forget i e1
      have c2 := c
      obtain ⟨xs, ds, e3, e4, ra⟩ := c
      -- the addresses kept apart: those of before, p among them
      have hO : ∀ a, (Γ.add p).O (τ.set i .no) σ a → Γ.O τ σ a := fun a h => by
        rcases h with (h | h) | h
        · exact .inl h
        · exact .inr ⟨i, d, .inl e1, by rw [h]; exact e2⟩
        · exact .inr (ow a h)
      have hC : ∀ {a d}, OwnC X.K X.mg (Γ.O τ σ) H a d → OwnC X.K X.mg ((Γ.add p).O (τ.set i .no) σ) H a d := fun ⟨xs, ds, e1, e2, r⟩ => ⟨xs, ds, e1, e2, r.weak hO⟩
      have np : ∀ j t, j ≠ i → τ[j]? = some t → held t → σ[j]? ≠ some (some (.ref p)) := fun j t nj ej hj z => nj (ok.dist j i t _ p ej hj e1 trivial z e2)
      refine ⟨⟨ok2.len, fun j t e => ?_, ok2.dist, ok2.fr, fun a h => h.elim (ok.bt a) fun z => ⟨.lst xs, by rw [z]; exact e4⟩, fun a h => .inl (ok.lb a h), ok2.la, ok2.pn⟩, hC c2⟩
      rcases get_set2 e with ⟨_, rfl⟩ | ⟨nj, e5⟩
      · trivial
      · have q := ok.sl j t e5
        cases t with
        | no => trivial
        | fz d => obtain ⟨v, e, r⟩ := q; exact ⟨v, e, r.weak hO⟩
        | ow d => obtain ⟨a, e, ⟨g1, g2⟩, c⟩ := q; exact ⟨a, e, ⟨g1, fun z => z.elim g2 fun z => np j _ nj e5 trivial (by rw [← z]; exact e)⟩, hC c⟩
        | ln d => obtain ⟨a, e, ⟨g1, g2⟩, c⟩ := q; exact ⟨a, e, ⟨g1, .inl g2⟩, hC c⟩
        | lk d l =>
          obtain ⟨a, e, g, c⟩ := q
          refine ⟨a, e, ?_, hC c⟩
          rcases g with ⟨g0, g1, g2⟩ | ⟨g0, g1, g2⟩
          · exact .inl ⟨g0, g1, fun z => z.elim g2 fun z => np j _ nj e5 trivial (by rw [← z]; exact e)⟩
          · exact .inr ⟨g0, g1, .inl g2⟩
theorem dss_nil : DSs X [] sNil := fun Γ => pssM pss_nil fun N σ H hq => by
  obtain ⟨τ, ok, hq⟩ := hq
  exact hq σ H .refl ok
theorem SFin.seq {K : PySem.W.Frag} {mg : Str → Option Value} {Γ : Fm} {τ : Stt} {σ : L2.St} {H : Hp} {N : Ends} (h : SFin K mg Γ τ σ H (sSeq f g τ) N) : SFin K mg Γ τ σ H (f τ) { N with nx := rdS K mg Γ g N } := by
  unfold sSeq at h
  cases e : f τ with
  | bad => rw [e] at h; exact h
  | ex e' τ' => rw [e] at h; exact h
  | ok fl τ1 =>
    simp only [e, R.bind] at h
    cases fl with
    | nx => exact fun σ' H' s ok => ⟨τ1, ok, SFin.after h s⟩
    | rt r => exact h
    | bk => exact h
    | ct => exact h
theorem dss_cons (h : DS X st f) (hr : DSs X rest g) : DSs X (st :: rest) (sSeq f g) := fun Γ => pssM (pss_cons (h Γ) (hr Γ)) fun N σ H hq => by
  obtain ⟨τ, ok, hq⟩ := hq
  exact ⟨τ, ok, SFin.seq hq⟩
theorem ds_if (hc : DT X c t) (ha : DSs X a f) (hb : DSs X b g) : DS X (.If c a b pos) (sIf t f g) := fun Γ => psM (ps_if (hc Γ) (ha Γ) (hb Γ)) fun N σ H hq => by
  obtain ⟨τ, ok, hq⟩ := hq
  refine ⟨τ, ok, ?_⟩
  unfold sIf at hq
  cases e1 : t τ with
  | bad => rw [e1] at hq; exact hq
  | ex e' τ' => rw [e1] at hq; exact hq
  | ok b τ1 =>
    simp only [e1, R.bind] at hq
    intro H1 s ok1
    cases b with
    | true => exact ⟨τ1, ok1, SFin.after hq s⟩
    | false => exact ⟨τ1, ok1, SFin.after hq s⟩
end
end Wt
set_option autoImplicit false
set_option Elab.async false
set_option linter.all false
set_option maxRecDepth 100000
/-! Wt.G: a def's promise where no repr is under way (repr of lists and tuples asks for it). -/
namespace Wt
open PySem PySem.Spec PyProof.Rows L2

structure FnG (P : Program) (w : World) (K : PySem.W.Frag) (mg : Str → Option Value) (base : Heap) (CX : CXT) (k : Nat) (f : Addr) (fd : FuncData) (ps : List Str) (sp : Sp) : Prop where
  len : ∀ vs H Q E, sp vs H Q E → vs.length = ps.length
  run : ∀ (A : Around) (outer : List Env) (s : Shared) (H : Hp) (args : Args) (us : List Value) (vs : List V) (Q : VK) (E : XK), Room k A → A.guards = some [] → Env0 P w K mg base A outer s H → BindsTo s fd args (ps.zip us) → Vals vs us → sp vs H Q E →
    codeAny (model P w) A (.call (.ref f) args) (CR CX outer P w H s Q E) s
section
variable {P : Program} {w : World} {K : PySem.W.Frag} {mg : Str → Option Value} {base : Heap} {CX : CXT} {j k : Nat} {f : Addr} {fd : FuncData} {ps : List Str} {sp sp' : Sp}
theorem FnG.mono (F : FnG P w K mg base CX j f fd ps sp) (h : j ≤ k) : FnG P w K mg base CX k f fd ps sp := ⟨F.len, fun A outer s H args us vs Q E hr => F.run A outer s H args us vs Q E (hr.mono h)⟩
theorem FnG.imp (F : FnG P w K mg base CX k f fd ps sp) (h : ∀ vs H Q E, sp' vs H Q E → sp vs H Q E) : FnG P w K mg base CX k f fd ps sp' :=
  ⟨fun vs H Q E q => F.len vs H Q E (h _ _ _ _ q), fun A outer s H args us vs Q E hr hg he hb hv hs => F.run A outer s H args us vs Q E hr hg he hb hv (h _ _ _ _ hs)⟩
end
section
variable {X : Cx} {CX : CXT} {k : Nat} {f : Addr} {fd : FuncData} {ps : List Str} {sp : Sp} {ds : List Value} {dvs : List V} {E : XK} {x : Str} {p pos : Pos} {e : Expr} {es : List Expr} {t : TA}
theorem run_fnG {pins : List (Addr × Obj)} {σ : L2.St} {H : Hp} {s : Shared} {Q : VK} {us : List Value} {vs : List V} (F : FnG X.prog X.w X.K X.mg X.base CX k f fd ps sp) (hr : Room k X.A) (hG : X.A.guards = some []) (hb : Binds X.K fd ps ds) (hd : Vals dvs ds) (hx : Passes CX X E)
    (I : Inv X pins σ H s) (r : Vals vs us) (h : sp (vs ++ dvs) H Q E) : wpAny (model X.prog X.w) X.A (call (.ref f) us) (EP X pins σ Q) X.xe s := by
  have r2 := r.append hd
  refine wpAny_call (codeAny_mono (F.run X.A X.stack s H ⟨us, []⟩ (us ++ ds) (vs ++ dvs) Q E hr hG I.env0 (hb s us I.kIn (r2.length.symm.trans (F.len _ _ _ _ h))) r2 h) fun r s' hq => ?_)
  rcases r with e | fl
  · exact hx pins σ H s e s' I hq
  · cases fl with
    | ret u => exact I.after hq
    | _ => exact hq.elim
theorem pe_callG (F : FnG X.prog X.w X.K X.mg X.base CX k f fd ps sp) (hr : Room k X.A) (hG : X.A.guards = some []) (hg : Gl X x) (hm : X.mg x = some (.ref f)) (hk : PySem.W.keepIn X.K (.ref f) = true) (hb : Binds X.K fd ps ds) (hd : Vals dvs ds) (hx : Passes CX X E)
    (ha : PA X (e :: es) t) (hdb : (x == ("__debug__" : Str)) = false := by decide) (he : starEach (e :: es) X.env = (false, eval e X.env) :: starEach es X.env := by rfl) (hpl : (backTo pos (starEach es X.env)).any (·.1) = false := by rfl) :
    PE X (.Call (.Name x p) (e :: es) [] pos) (tCall sp dvs E t) := ⟨fun pins s σ H Q I h => wpAny_Call_Name_kw (ld_glob I hg hm (PySem.W.callWith_K (h₀ := X.base) I.ok.mod.kin hk
      (thn (ha.run pos pins s σ H _ I h) fun us s1 ⟨vs, H1, I1, r, q⟩ => ⟨I1.kIn, run_fnG F hr hG hb hd hx I1 r q⟩) he hpl) hdb)⟩
end
/-- a def by its body -/
theorem funG {P : Program} {w : World} {K : PySem.W.Frag} {mg : Str → Option Value} {base : Heap} {x qual : Str} {st : Stmt} {f : Addr} {fd : FuncData} {N ps : List Str} {k : Nat} {sp : Sp} (F : Fun K x qual st f fd) (S : FnScope N ps (defScope st))
    (len : ∀ vs H Q E, sp vs H Q E → vs.length = ps.length)
    (hbody : ∀ (cdv : Value) (A : Around) (outer : List Env) (s : Shared) (H : Hp) (vs : List V) (Q : VK) (E : XK), Room k (A.deeper (envOfC qual (defScope st) s.heap.objs.size f cdv)) → A.guards = some [] → sp vs H Q E →
      ∃ t, PSs (cxOf CX0 P w K mg base N qual (defScope st) f cdv A outer s H E).nox (defBody st) t ∧ t { nx := fun _ H' => Q .non H', rt := Q } (L2.start N vs) H) : FnG P w K mg base CX0 (k + 1) f fd ps sp := by
  obtain ⟨oc, od, kV, doc, pm, an, cdv, ct, osl, rfl, lk, hcd⟩ := F.ex
  refine ⟨len, fun A outer s H args us vs Q E hr hG e0 hb r hsp => ?_⟩
  have hl := len _ _ _ _ hsp
  have old : ∀ b o, base.get? b = some o → s.heap.get? b = some o := fun b o e => (e0.bs b o e).1
  refine codeAny_call_function hr.depth (e0.mod.kin.keeps old _ _ lk) rfl S.co S.gen rfl (PySem.W.codeRec_of (e0.mod.kin.keeps old) hcd) (hb _ _ _ _ ?_)
  refine wpAny_newFunctionEnv_cells S.kind (fun ⟨n, v⟩ hy => (S.par n (List.of_mem_zip hy).1).imp id fun q => ⟨q, PySem.W.cellsFrom_some _ _ _ (.inl q)⟩) fun env he s1 x => ?_
  subst he
  refine ⟨(e0.mod.nolimit.keeps old).keeps x.toInCall.keep, codeAny_func ?_⟩
  obtain ⟨t, ht, hq⟩ := hbody cdv A outer s H vs Q E (hr.deeper _) hG hsp
  have I : Inv (cxOf CX0 P w K mg base N qual (defScope st) f cdv A outer s H E) [] (L2.start N vs) H s1 := inv_start S hr.hd e0 hl r x
  refine wpAny_mono (ht.nox.run [] s1 (L2.start N vs) H _ I hq) (fun fl s' hs => ?_) fun e s' hs => hs
  cases fl with
  | ret u =>
    obtain ⟨v, σ', H', J, rv, q⟩ := hs
    exact ⟨v, H', J.os, J.bare, J.base, J.hok, rv, q⟩
  | next =>
    obtain ⟨σ', H', J, q⟩ := hs
    exact ⟨V.non, H', J.os, J.bare, J.base, J.hok, rfl, q⟩
  | brk => obtain ⟨_, _, _, q⟩ := hs; exact q.elim
  | cont => obtain ⟨_, _, _, q⟩ := hs; exact q.elim

/-! ### the law's call -/
/-- the script: nothing else is tracked -/
structure Scr (P : Program) (w : World) (K : PySem.W.Frag) (a : Addr) (ns : List Int) (h : Heap) (H : Hp) : Prop where
  only : Only H
  sq : SqL K H a (ns.map V.int)
  ok : HOk P w H h
  at_ : ∀ b, H b ≠ none → b = a
  k : H a ≠ none → K.lookup a = none
theorem scr_ex {P : Program} {w : World} {K : PySem.W.Frag} {a : Addr} {vs : List Value} {ns : List Int} {h : Heap} (KX : K.In h) (ha : h.get? a = some { cls := .type "list", data := .seq vs.toArray }) (hi : IntsAre vs ns) (hl : ns.length ≤ sizeLine) : ∃ H, Scr P w K a ns h H := by
  have rv := vals_ints hi
  have hz : (ns.map V.int).length ≤ sizeLine := by rw [List.length_map]; exact hl
  by_cases hk : K.lookup a = none
  · refine ⟨fun b => if b = a then some (.frz { cls := .type "list", data := .seq vs.toArray } (.lst (ns.map V.int))) else none, fun b => ?_, .inl (.inr ⟨_, if_pos rfl⟩), fun b u z => ?_, fun b z => ?_, fun _ => hk⟩
    · exact (Classical.em (b = a)).elim (fun e => .inr ⟨_, _, if_pos e⟩) fun e => .inl (if_neg e)
    · by_cases hb : b = a
      · subst hb
        rw [if_pos rfl] at z
        cases z
        exact ⟨ha, hz, vs, _, rv, ha⟩
      · rw [if_neg hb] at z
        cases z
    · exact Decidable.byContradiction fun n => z (if_neg n)
  · cases e : K.lookup a with
    | none => exact absurd e hk
    | some o =>
      have e2 := KX a o e
      rw [ha] at e2
      cases e2
      exact ⟨fun _ => none, fun _ => .inl rfl, .inr ⟨_, vs.toArray, _, e, rfl, rfl, rfl, by rw [List.size_toArray, hi.length]; exact hl, by simpa using rv⟩, fun _ _ z => (by cases z), fun _ z => absurd rfl z, fun z => absurd rfl z⟩
theorem law_callG {P : Program} {w : World} {K : PySem.W.Frag} {mg mb : Str → Option Value} {k : Nat} {fa a : Addr} {sp : Sp} {s₁ : Shared} {vs : List Value} {ns : List Int}
    (KX : K.In s₁.heap) (hns : s₁.heap.Ns mainGlobals mg) (hb : s₁.heap.Ns builtinsNs mb) (hbb : ∀ x : Str, x ≠ "__name__" → mb x = bootBuiltins x) (hlim : s₁.heap.NoLimit) (hg : s₁.gens = #[])
    (ha : s₁.heap.get? a = some { cls := .type "list", data := .seq vs.toArray }) (hi : IntsAre vs ns) (hl : ns.length ≤ sizeLine) (hr : Room k callerA)
    (F : ∀ base : Heap, K.In base → base.Ns mainGlobals mg → ∃ fd ps, FnG P w K mg base CX0 k fa fd ps sp ∧ ∀ (s : Shared) (u : Value), K.In s.heap → BindsTo s fd ⟨[u], []⟩ (ps.zip [u]))
    (hsp : ∀ H : Hp, Only H → SqL K H a (ns.map V.int) → sp [.ref a] H (fun v _ => v = .bl true) fun _ _ _ => False) :
    codeAny (model P w) callerA (.call (.ref fa) ⟨[.ref a], []⟩) (fun r s' => r = .ok (.ret (.bool true)) ∧ OldK s₁.heap s'.heap ∧ s'.os = s₁.os ∧ AllBare s'.gens) s₁ := by
  obtain ⟨H, S⟩ := scr_ex (P := P) (w := w) KX ha hi hl
  have free : ∀ {b : Addr} {o : Obj}, s₁.heap.get? b = some o → (b = a → H a = none) → H b = none := fun {b o} _ n => Decidable.byContradiction fun z => z (by have e := S.at_ b z; subst e; exact n rfl)
  have nsK : ∀ {b : Addr} {m : Str → Option Value}, s₁.heap.Ns b m → (hidT s₁.heap H).Ns b m := fun {b m} ⟨o, es, ep, e, d, r⟩ => ⟨o, es, ep, hidT_get e (free e fun z => by
    subst z
    rw [ha] at e; cases e
    have d' : Data.seq vs.toArray _ = Data.dict es ep := d
    cases d'), d, r⟩
  have hKb : K.In (hidT s₁.heap H) := fun b o e => hidT_get (KX b o e) (free (KX b o e) fun z => Decidable.byContradiction fun n => by subst z; rw [S.k n] at e; cases e)
  have hM : Mod K mg (hidT s₁.heap H) := ⟨hKb, nsK hns, ⟨mb, nsK hb, hbb⟩, let ⟨mc, h1, h2⟩ := hlim; ⟨mc, nsK h1, h2⟩⟩
  have e0 : Env0 P w K mg (hidT s₁.heap H) callerA [] s₁ H := ⟨rfl, hM, fun b o e => of_hidT e, Nat.le_of_eq (hidT_size _ _), trivial, fun b hb => absurd (show b ∈ ([] : List Addr) from hb) (by simp), S.ok, AllBare.of_eq hg⟩
  obtain ⟨fd, ps, hF, hbind⟩ := F _ hKb (nsK hns)
  refine codeAny_mono (hF.run callerA [] s₁ H ⟨[.ref a], []⟩ [.ref a] [.ref a] _ _ hr rfl e0 (hbind s₁ (.ref a) KX) (.cons rfl .nil) (hsp H S.only S.sq)) fun r s' h => ?_
  rcases r with e | fl
  · exact h.elim
  · cases fl with
    | ret u =>
      obtain ⟨v, H', os, bare, un, hok', r', q⟩ := h
      subst q
      obtain rfl : u = Value.bool true := r'
      refine ⟨rfl, OldK.of_keep fun b o e => ?_, os, bare⟩
      cases q : H b with
      | none => exact un.keep b o e q (fun z => absurd (show b ∈ ([] : List Addr) from z) (by simp)) (by simp)
      | some u =>
        have hO : H b = none ∨ ∃ ob xs, H b = some (.frz ob (.lst xs)) := S.only b
        rcases hO with z | ⟨ob, xs, z⟩
        · rw [q] at z; cases z
        · have e1 := (S.ok b _ z).1
          have e2 := (hok' b _ (un.frzs b ob _ z)).1
          rw [e] at e1; cases e1
          exact e2
    | _ => exact h.elim
theorem walk_ofGE {l : PySem.W.OpenLaw} {n k : Nat} {q : Program} {loose : List Str} {XP : (Str → Option Value) → Heap → Prop} {YP : World → Heap → Prop} {d : DefRec}
    (hn : l.most = some n) (hn2 : n ≤ sizeLine) (hdf : d.params.defaults = []) (hr : Room k callerA)
    (F : ∀ (w : World) (mg : Str → Option Value) (fa : Addr) (h : Heap), YP w h → h.Ns mainGlobals mg → mg d.name = some (.ref fa) →
      ∃ (K : PySem.W.Frag) (sp : Sp), K.In h ∧ (∀ (H : Hp) (a : Addr) (ns : List Int), ns.length ≤ n → Only H → SqL K H a (ns.map V.int) → sp [.ref a] H (fun v _ => v = .bl true) fun _ _ _ => False) ∧
        ∀ base : Heap, K.In base → base.Ns mainGlobals mg → ∃ fd ps, FnG l.prog w K mg base CX0 k fa fd ps sp ∧ ∀ (s : Shared) (u : Value), K.In s.heap → BindsTo s fd ⟨[u], []⟩ (ps.zip [u])) :
    PySem.W.WalkO q loose XP YP l.row.toRowW d [] (fun f vs => PySem.call f vs) := by
  refine Att.attach_call hn hdf fun w s₀ s₁ mg mb fa o pm cd doc a vs ns G Y ho hd hcd hmg hobj hints hlen hg => ?_
  obtain ⟨K, sp, KX, hsp, hF⟩ := F w mg fa _ Y G.T.g hmg
  exact law_callG KX G.T.g G.T.b G.T.builtins G.T.nolimit hg hobj hints (Nat.le_trans hlen hn2) hr hF fun H hO hS => hsp H a ns hlen hO hS
end Wt
set_option autoImplicit false
set_option Elab.async false
set_option linter.all false
set_option maxRecDepth 100000
/-! Wt.Call: a def's promise by its tree function; its call; a def by its body. -/
namespace Wt
open PySem PySem.Spec PyProof.Rows L2

section
variable (K : PySem.W.Frag) (mg : Str → Option Value)
/-- the arguments: shared values, and lists that are lent -/
inductive ArgsOk (B : As) (H : Hp) : List Bool → List V → List D → Prop
  | nil : ArgsOk B H [] [] []
  | val {v : V} {d : D} {ms : List Bool} {vs : List V} {ds : List D} : Rep K mg B H v d → ArgsOk B H ms vs ds → ArgsOk B H (false :: ms) (v :: vs) (d :: ds)
  | ref {p : Addr} {d : D} {ms : List Bool} {vs : List V} {ds : List D} : B p → OwnC K mg B H p d → ArgsOk B H ms vs ds → ArgsOk B H (true :: ms) (.ref p :: vs) (d :: ds)
/-- what became of the lent lists -/
inductive RefsOk (B : As) (H : Hp) : List Addr → List D → Prop
  | nil : RefsOk B H [] []
  | cons {p : Addr} {d : D} {ps : List Addr} {ds : List D} : OwnC K mg B H p d → RefsOk B H ps ds → RefsOk B H (p :: ps) (d :: ds)
end
/-- the addresses of the lent lists -/
def lent : List Bool → List V → List Addr
  | true :: ms, .ref p :: vs => p :: lent ms vs
  | _ :: ms, _ :: vs => lent ms vs
  | _, _ => []
def OutOk (K : PySem.W.Frag) (mg : Str → Option Value) (B : As) (H : Hp) (ls : List Addr) (o : Out) (Q : VK) : Prop := match o with
  | .ok d fr refs => ∀ v H', (∀ a x, H a = some x → a ∉ ls → H' a = some x) → (match fr with
      | false => RefsOk K mg B H' ls refs ∧ Rep K mg B H' v d
      | true => ∃ p, v = .ref p ∧ H p = none ∧ RefsOk K mg (fun a => B a ∨ a = p) H' ls refs ∧ OwnC K mg (fun a => B a ∨ a = p) H' p d) → Q v H'
  | .ex _ _ => False
  | .bad => False
/-- the promise -/
def spG (K : PySem.W.Frag) (mg : Str → Option Value) (ms : List Bool) (G : List D → Out) : Sp := fun vs H Q _ =>
  ∃ B ds, ArgsOk K mg B H ms vs ds ∧ (lent ms vs).Nodup ∧ (∀ a, B a → ∃ o, H a = some o) ∧ OutOk K mg B H (lent ms vs) (G ds) Q

section
variable {K : PySem.W.Frag} {mg : Str → Option Value} {Γ : Fm} {τ τ1 τ' : Stt} {σ σ1 σ' : L2.St} {H H1 H' : Hp} {r : RV} {v : V} {N N' : Ends}
/-- how arguments are handed: by value, or lent -/
def modes : List Arg → List Bool
  | [] => []
  | .v _ :: as => false :: modes as
  | .s _ :: as => true :: modes as
def modesP : List Pk → List Bool
  | [] => []
  | .v _ :: as => false :: modesP as
  | .s _ :: as => true :: modesP as
theorem fArgs_modes : ∀ {as : List Arg} {τ : Stt} {ps : List Pk} {τ' : Stt}, fArgs as τ = .ok ps τ' → modesP ps = modes as
  | [], τ, ps, τ', h => by cases h; rfl
  | a :: as, τ, ps, τ', h => by
    simp only [fArgs] at h
    cases e1 : fArg a τ with
    | bad => rw [e1] at h; cases h
    | ex e' τ' => rw [e1] at h; cases h
    | ok p τ1 =>
      simp only [e1, R.bind] at h
      cases e2 : fArgs as τ1 with
      | bad => rw [e2] at h; cases h
      | ex e' τ' => rw [e2] at h; cases h
      | ok qs τ2 =>
        simp only [e2] at h
        cases h
        have ih := fArgs_modes e2
        cases a with
        | v F =>
          simp only [fArg] at e1
          cases e3 : F τ with
          | bad => rw [e3] at e1; cases e1
          | ex e' τ' => rw [e3] at e1; cases e1
          | ok r τ3 => rw [e3] at e1; cases e1; simp only [modesP, modes, ih]
        | s i =>
          simp only [fArg] at e1
          cases e3 : (τ[i]?).bind Sl.d? with
          | none => rw [e3] at e1; cases e1
          | some d => rw [e3] at e1; cases e1; simp only [modesP, modes, ih]
/-- the slots that are lent -/
def slotsP : List Pk → List Nat
  | [] => []
  | .v _ :: as => slotsP as
  | .s i :: as => i :: slotsP as
def slotsA : List Arg → List Nat
  | [] => []
  | .v _ :: as => slotsA as
  | .s i :: as => i :: slotsA as
theorem fArgs_slots : ∀ {as : List Arg} {τ : Stt} {ps : List Pk} {τ' : Stt}, fArgs as τ = .ok ps τ' → slotsP ps = slotsA as
  | [], τ, ps, τ', h => by cases h; rfl
  | a :: as, τ, ps, τ', h => by
    simp only [fArgs] at h
    cases e1 : fArg a τ with
    | bad => rw [e1] at h; cases h
    | ex e' τ' => rw [e1] at h; cases h
    | ok p τ1 =>
      simp only [e1, R.bind] at h
      cases e2 : fArgs as τ1 with
      | bad => rw [e2] at h; cases h
      | ex e' τ' => rw [e2] at h; cases h
      | ok qs τ2 =>
        simp only [e2] at h
        cases h
        have ih := fArgs_slots e2
        cases a with
        | v F =>
          simp only [fArg] at e1
          cases e3 : F τ with
          | bad => rw [e3] at e1; cases e1
          | ex e' τ' => rw [e3] at e1; cases e1
          | ok r τ3 => rw [e3] at e1; cases e1; simp only [slotsP, slotsA, ih]
        | s i =>
          simp only [fArg] at e1
          cases e3 : (τ[i]?).bind Sl.d? with
          | none => rw [e3] at e1; cases e1
          | some d => rw [e3] at e1; cases e1; simp only [slotsP, slotsA, ih]
/-- an own or lent slot -/
theorem SOk.own (ok : SOk K mg Γ τ σ H) {i : Nat} {s : Sl} {d : D} (e : τ[i]? = some s) (hd : s.own? = some d) : ∃ p, σ[i]? = some (some (.ref p)) ∧ Γ.O τ σ p ∧ OwnC K mg (Γ.O τ σ) H p d ∧ held s ∧ mutS τ σ p := by
  cases s with
  | no => cases hd
  | fz d => cases hd
  | lk d l => cases hd
  | ow d => cases hd; obtain ⟨p, e1, h, c⟩ := ok.sl i _ e; exact ⟨p, e1, .inr ⟨i, _, .inl e, e1⟩, c, trivial, i, _, .inl e, e1⟩
  | ln d => cases hd; obtain ⟨p, e1, ⟨_, h⟩, c⟩ := ok.sl i _ e; exact ⟨p, e1, .inl h, c, trivial, i, _, .inr e, e1⟩
theorem args_ok (ok : SOk K mg Γ τ σ H) : ∀ {ps : List Pk} {vs : List V} {ds : List D}, PksOk K mg (Γ.O τ σ) σ H vs ps → ownAll τ ps = true → resAll τ ps = some ds → ArgsOk K mg (Γ.O τ σ) H (modesP ps) vs ds
  | [], _, _, .nil, _, e => by cases e; exact .nil
  | p :: ps, _, ds, .cons h t, ho, e => by
    unfold resAll at e
    cases e1 : p.res τ with
    | none => rw [e1] at e; cases e
    | some d =>
      cases e2 : resAll τ ps with
      | none => rw [e1, e2] at e; cases e
      | some ds' =>
        rw [e1, e2] at e; cases e
        cases p with
        | v d' => cases e1; exact .val h (args_ok ok t ho e2)
        | s i =>
          simp only [ownAll, Bool.and_eq_true] at ho
          cases e3 : τ[i]? with
          | none => rw [e3] at ho; cases ho.1
          | some s =>
            simp only [e3, Option.bind_some] at ho
            simp only [Pk.res, e3, Option.bind_some] at e1
            cases e4 : s.own? with
            | none => rw [e4] at ho; cases ho.1
            | some d2 =>
              have ed : d2 = d := by
                cases s <;> simp_all [Sl.own?, Sl.d?]
              subst ed
              obtain ⟨q, e5, h1, h2, _⟩ := ok.own e3 e4
              have e6 : σ[i]? = some (some _) := h
              rw [e5] at e6
              cases e6
              exact .ref h1 h2 (args_ok ok t ho.2 e2)
/-- the lent addresses are those of the slots -/
theorem lent_slots (ok : SOk K mg Γ τ σ H) : ∀ {ps : List Pk} {vs : List V}, PksOk K mg (Γ.O τ σ) σ H vs ps → ownAll τ ps = true → ∀ a, a ∈ lent (modesP ps) vs → ∃ i s, i ∈ slotsP ps ∧ τ[i]? = some s ∧ s.own?.isSome = true ∧ σ[i]? = some (some (.ref a))
  | [], _, .nil, _, a, h => by cases h
  | p :: ps, _, .cons (v := v) h t, ho, a, hm => by
    cases p with
    | v d =>
      have hm' : a ∈ lent (modesP ps) _ := hm
      obtain ⟨i, s, h1, h2⟩ := lent_slots ok t ho a hm'
      exact ⟨i, s, h1, h2⟩
    | s i =>
      simp only [ownAll, Bool.and_eq_true] at ho
      cases e3 : τ[i]? with
      | none => rw [e3] at ho; cases ho.1
      | some s =>
        simp only [e3, Option.bind_some] at ho
        obtain ⟨d, hd⟩ := Option.isSome_iff_exists.mp ho.1
        obtain ⟨q, e5, _⟩ := ok.own e3 hd
        have e6 : σ[i]? = some (some v) := h
        rw [e5] at e6
        cases e6
        simp only [modesP, lent, List.mem_cons] at hm
        rcases hm with rfl | hm
        · exact ⟨i, s, List.mem_cons_self, e3, ho.1, e5⟩
        · obtain ⟨j, s', h1, h2⟩ := lent_slots ok t ho.2 a hm
          exact ⟨j, s', List.mem_cons_of_mem _ h1, h2⟩
theorem held_own {s : Sl} (h : s.own?.isSome = true) : held s := by cases s <;> first | trivial | cases h
theorem lent_nodup (ok : SOk K mg Γ τ σ H) : ∀ {ps : List Pk} {vs : List V}, PksOk K mg (Γ.O τ σ) σ H vs ps → ownAll τ ps = true → (slotsP ps).Nodup → (lent (modesP ps) vs).Nodup
  | [], _, .nil, _, _ => List.nodup_nil
  | p :: ps, _, .cons (v := v) h t, ho, nd => by
    cases p with
    | v d =>
      show (lent (modesP ps) _).Nodup
      exact lent_nodup ok t ho nd
    | s i =>
      have ho' := ho
      simp only [ownAll, Bool.and_eq_true] at ho
      cases e3 : τ[i]? with
      | none => rw [e3] at ho; cases ho.1
      | some s =>
        simp only [e3, Option.bind_some] at ho
        obtain ⟨d, hd⟩ := Option.isSome_iff_exists.mp ho.1
        obtain ⟨q, e5, _⟩ := ok.own e3 hd
        have e6 : σ[i]? = some (some v) := h
        rw [e5] at e6
        cases e6
        have nd' : i ∉ slotsP ps ∧ (slotsP ps).Nodup := List.nodup_cons.mp nd
        refine List.nodup_cons.mpr ⟨fun hm => ?_, lent_nodup ok t ho.2 nd'.2⟩
        obtain ⟨j, s', h1, h2, h3, h4⟩ := lent_slots ok t ho.2 q hm
        exact nd'.1 (ok.dist i j s s' q e3 (held_own ho.1) h2 (held_own h3) e5 h4 ▸ h1)
theorem own_put {s : Sl} {d : D} : (∀ e, s = .ow e → s.put d = .ow d) ∧ (∀ e, s = .ln e → s.put d = .ln d) ∧ (held (s.put d) → held s) := by
  cases s <;> refine ⟨fun e h => ?_, fun e h => ?_, fun h => ?_⟩ <;> first | (cases h; done) | exact h | trivial | rfl
theorem get_modify2 {l : Stt} {i j : Nat} {f : Sl → Sl} {y : Sl} (e : (l.modify i f)[j]? = some y) : (j = i ∧ ∃ x, l[j]? = some x ∧ y = f x) ∨ (j ≠ i ∧ l[j]? = some y) := by
  rw [List.getElem?_modify] at e
  by_cases hj : i = j
  · subst hj
    cases q : l[i]? with
    | none => rw [q] at e; cases e
    | some x => rw [q] at e; simp at e; exact .inl ⟨rfl, x, rfl, e.symm⟩
  · simp only [hj, if_false, id] at e
    cases q : l[j]? with
    | none => rw [q] at e; cases e
    | some x => rw [q] at e; simp at e; subst e; exact .inr ⟨fun z => hj z.symm, rfl⟩
/-- what putRefs does -/
theorem putRefs_get {B : As} : ∀ {ps : List Pk} {vs : List V} {refs : List D} {τ τ2 : Stt}, (∀ i ∈ slotsP ps, ∀ v, σ[i]? = some (some v) → True) → putRefs ps refs τ = some τ2 → RefsOk K mg B H' (lent (modesP ps) vs) refs → PksOk K mg Γ.B σ H vs ps → (∀ i ∈ slotsP ps, ∃ p, σ[i]? = some (some (.ref p))) →
    τ2.length = τ.length ∧ ∀ j s', τ2[j]? = some s' → ∃ s, τ[j]? = some s ∧ ((s' = s ∧ j ∉ slotsP ps) ∨ (j ∈ slotsP ps ∧ ∃ d a, s' = s.put d ∧ σ[j]? = some (some (.ref a)) ∧ a ∈ lent (modesP ps) vs ∧ OwnC K mg B H' a d))
  | [], _, [], τ, τ2, _, h, _, .nil, _ => by
    cases h
    exact ⟨rfl, fun j s e => ⟨s, e, .inl ⟨rfl, by simp [slotsP]⟩⟩⟩
  | [], _, _ :: _, τ, τ2, _, h, _, .nil, _ => by cases h
  | .v d :: ps, _, refs, τ, τ2, h0, h, hr, .cons h1 t, hs => putRefs_get (ps := ps) h0 h hr t hs
  | .s i :: ps, _, [], τ, τ2, h0, h, hr, _, hs => by cases h
  | .s i :: ps, u :: vs, d :: refs, τ, τ2, h0, h, hr, .cons h1 t, hs => by
    obtain ⟨p, ep⟩ := hs i List.mem_cons_self
    have e1 : σ[i]? = some (some u) := h1
    rw [ep] at e1
    cases e1
    have hr' : RefsOk K mg B H' (p :: lent (modesP ps) _) (d :: refs) := hr
    cases hr' with
    | cons c hr2 =>
      have h' : putRefs ps refs (τ.modify i (Sl.put d)) = some τ2 := h
      obtain ⟨hl, hg⟩ := putRefs_get (fun _ _ _ _ => trivial) h' hr2 t fun j hj => hs j (List.mem_cons_of_mem _ hj)
      refine ⟨by rw [hl, List.length_modify], fun j s' e => ?_⟩
      obtain ⟨s1, e1, q⟩ := hg j s' e
      rcases get_modify2 e1 with ⟨rfl, x, e2, rfl⟩ | ⟨nj, e2⟩
      · refine ⟨x, e2, .inr ⟨List.mem_cons_self, ?_⟩⟩
        rcases q with ⟨rfl, _⟩ | ⟨_, d2, a, rfl, e3, hm, c2⟩
        · exact ⟨d, p, rfl, ep, List.mem_cons_self, c⟩
        · refine ⟨d2, a, ?_, e3, List.mem_cons_of_mem _ hm, c2⟩
          cases x <;> rfl
      · refine ⟨s1, e2, ?_⟩
        rcases q with ⟨rfl, hn⟩ | ⟨hm, d2, a, rfl, e3, hm2, c2⟩
        · exact .inl ⟨rfl, fun z => (List.mem_cons.mp z).elim nj hn⟩
        · exact .inr ⟨List.mem_cons_of_mem _ hm, d2, a, rfl, e3, List.mem_cons_of_mem _ hm2, c2⟩
theorem PksOk.base {O O' : As} {ps : List Pk} {vs : List V} (h : PksOk K mg O σ H vs ps) (ho : ∀ a, O' a → O a) : PksOk K mg O' σ H vs ps := h.stay ⟨fun a _ o _ => ho a o, fun _ _ h _ => h⟩
/-- behind a call: the lent lists have changed, the heap has grown -/
theorem SOk.back {B2 : As} {ps : List Pk} {vs : List V} {refs : List D} {τ2 : Stt} (ok : SOk K mg Γ τ σ H) (hp : PksOk K mg (Γ.O τ σ) σ H vs ps) (ho : ownAll τ ps = true)
    (k : ∀ a x, H a = some x → a ∉ lent (modesP ps) vs → H' a = some x) (hB : ∀ a, Γ.B a → B2 a) (hB2 : ∀ a, B2 a → Γ.B a ∨ (H a = none ∧ ∃ x, H' a = some x))
    (hr : RefsOk K mg (fun a => B2 a ∨ ownS τ σ a) H' (lent (modesP ps) vs) refs) (h : putRefs ps refs τ = some τ2) :
    SOk K mg { Γ with B := B2 } τ2 σ H' ∧ (∀ a, ownS τ2 σ a ↔ ownS τ σ a) ∧ Step σ τ H σ τ2 H' := by
  have slot : ∀ i ∈ slotsP ps, ∃ s p, τ[i]? = some s ∧ s.own?.isSome = true ∧ σ[i]? = some (some (.ref p)) := by
    clear hr h k hp
    induction ps with
    | nil => exact fun i hi => absurd hi (by simp [slotsP])
    | cons p ps ih =>
      cases p with
      | v d => exact ih ho
      | s j =>
        simp only [ownAll, Bool.and_eq_true] at ho
        intro i hi
        rcases List.mem_cons.mp hi with rfl | hi
        · cases e3 : τ[i]? with
          | none => rw [e3] at ho; cases ho.1
          | some s =>
            simp only [e3, Option.bind_some] at ho
            obtain ⟨d, hd⟩ := Option.isSome_iff_exists.mp ho.1
            obtain ⟨q, e5, _⟩ := ok.own e3 hd
            exact ⟨s, q, rfl, ho.1, e5⟩
        · exact ih ho.2 i hi
  obtain ⟨hl, hg⟩ := putRefs_get (Γ := Γ) (fun _ _ _ _ => trivial) h hr (hp.base fun a z => .inl z) fun i hi => let ⟨s, p, _, _, e⟩ := slot i hi; ⟨p, e⟩
  have lentMut : ∀ a, a ∈ lent (modesP ps) vs → mutS τ σ a := fun a ha => by
    obtain ⟨i, s, h1, h2, h3, h4⟩ := lent_slots ok hp ho a ha
    obtain ⟨d, hd⟩ := Option.isSome_iff_exists.mp h3
    obtain ⟨q, e5, _, _, _, m⟩ := ok.own h2 hd
    rw [h4] at e5; cases e5
    exact m
  have refTr : ∀ {ls : List Addr} {rs : List D}, RefsOk K mg (fun a => B2 a ∨ ownS τ σ a) H' ls rs → ∀ a ∈ ls, ∃ x, H' a = some x := by
    intro ls rs hr
    induction hr with
    | nil => exact fun a ha => absurd ha (by simp)
    | cons c _ ih =>
      intro a ha
      rcases List.mem_cons.mp ha with rfl | ha
      · obtain ⟨xs, ds, _, e, _⟩ := c; exact ⟨_, e⟩
      · exact ih a ha
  have tr : ∀ a x, H a = some x → ∃ y, H' a = some y := fun a x e => by
    by_cases ha : a ∈ lent (modesP ps) vs
    · exact refTr hr a ha
    · exact ⟨x, k a x e ha⟩
  have st : Stay (Γ.O τ σ) H (fun a => B2 a ∨ ownS τ σ a) H' := by
    refine ⟨fun a x h e => ?_, fun a x e h => k a x e fun ha => ?_⟩
    · rcases h with h | h
      · rcases hB2 a h with h | ⟨h, _⟩
        · exact .inl h
        · rw [e] at h; cases h
      · exact .inr h
    · obtain ⟨⟨xs, e'⟩, o⟩ := ok.mut_lst (lentMut a ha)
      rcases h with h | h
      · rw [e] at e'; cases e'; exact h
      · exact h o
  -- the sorts of the slots are as they were
  have back : ∀ j s', τ2[j]? = some s' → ∃ s, τ[j]? = some s ∧ ((s' = s ∧ j ∉ slotsP ps) ∨ (j ∈ slotsP ps ∧ s.own?.isSome = true ∧ ∃ d a, s' = s.put d ∧ σ[j]? = some (some (.ref a)) ∧ OwnC K mg (fun a => B2 a ∨ ownS τ σ a) H' a d)) := fun j s' e => by
    obtain ⟨s, e1, q⟩ := hg j s' e
    refine ⟨s, e1, ?_⟩
    rcases q with q | ⟨hm, d, a, e2, e3, _, c⟩
    · exact .inl q
    · obtain ⟨s2, p, e4, h4, _⟩ := slot j hm
      rw [e1] at e4; cases e4
      exact .inr ⟨hm, h4, d, a, e2, e3, c⟩
  have forth : ∀ j s, τ[j]? = some s → ∃ s', τ2[j]? = some s' := fun j s e => by
    have : j < τ2.length := by rw [hl]; exact (List.getElem?_eq_some_iff.mp e).1
    exact ⟨_, List.getElem?_eq_getElem this⟩
  have own1 : ∀ a, ownS τ2 σ a → ownS τ σ a := fun a ⟨j, d, h, e⟩ => by
    have h' : ∃ t, (t = Sl.ow d ∨ t = Sl.lk d false) ∧ τ2[j]? = some t := h.elim (fun h => ⟨_, .inl rfl, h⟩) fun h => ⟨_, .inr rfl, h⟩
    obtain ⟨t, ht, h'⟩ := h'
    obtain ⟨s, e1, q⟩ := back j t h'
    rcases q with ⟨rfl, _⟩ | ⟨_, hs, d2, a2, rfl, _⟩
    · exact ⟨j, d, ht.elim (fun z => .inl (z ▸ e1)) (fun z => .inr (z ▸ e1)), e⟩
    · cases s with
      | ow d3 => exact ⟨j, d3, .inl e1, e⟩
      | ln d3 => rcases ht with ht | ht <;> cases ht
      | no => cases hs
      | fz d => cases hs
      | lk d l => cases hs
  have own2 : ∀ a, ownS τ σ a → ownS τ2 σ a := fun a ⟨j, d, h, e⟩ => by
    have h' : ∃ t, (t = Sl.ow d ∨ t = Sl.lk d false) ∧ τ[j]? = some t := h.elim (fun h => ⟨_, .inl rfl, h⟩) fun h => ⟨_, .inr rfl, h⟩
    obtain ⟨t, ht, h'⟩ := h'
    obtain ⟨s', e1⟩ := forth j t h'
    obtain ⟨s, e2, q⟩ := back j s' e1
    rw [h'] at e2; cases e2
    rcases q with ⟨rfl, _⟩ | ⟨_, hs, d2, a2, rfl, _⟩
    · exact ⟨j, d, ht.elim (fun z => .inl (z ▸ e1)) (fun z => .inr (z ▸ e1)), e⟩
    · rcases ht with rfl | rfl
      · exact ⟨j, d2, .inl e1, e⟩
      · cases hs
  have mut1 : ∀ a, mutS τ2 σ a → mutS τ σ a := fun a ⟨j, d, h, e⟩ => by
    have h' : ∃ t, (t = Sl.ow d ∨ t = Sl.ln d) ∧ τ2[j]? = some t := h.elim (fun h => ⟨_, .inl rfl, h⟩) fun h => ⟨_, .inr rfl, h⟩
    obtain ⟨t, ht, h'⟩ := h'
    obtain ⟨s, e1, q⟩ := back j t h'
    rcases q with ⟨rfl, _⟩ | ⟨_, hs, d2, a2, rfl, _⟩
    · exact ⟨j, d, ht.elim (fun z => .inl (z ▸ e1)) (fun z => .inr (z ▸ e1)), e⟩
    · cases s with
      | ow d3 => exact ⟨j, d3, .inl e1, e⟩
      | ln d3 => exact ⟨j, d3, .inr e1, e⟩
      | no => cases hs
      | fz d => cases hs
      | lk d l => cases hs
  have hO : ∀ a, ({ Γ with B := B2 } : Fm).O τ2 σ a → B2 a ∨ ownS τ σ a := fun a h => h.elim .inl fun z => .inr (own1 a z)
  have hC : ∀ {a d}, OwnC K mg (fun a => B2 a ∨ ownS τ σ a) H' a d → OwnC K mg (({ Γ with B := B2 } : Fm).O τ2 σ) H' a d := fun ⟨xs, ds, e1, e2, r⟩ => ⟨xs, ds, e1, e2, r.weak hO⟩
  have nB : ∀ {a}, (∃ x, H a = some x) → ¬ Γ.B a → ¬ B2 a := fun ⟨x, e⟩ n z => (hB2 _ z).elim n fun q => by rw [e] at q; cases q.1
  refine ⟨⟨by rw [hl]; exact ok.len, fun j s' e => ?_, fun j k t u p e1 h1 e2 h2 e3 e4 => ?_, fun a o e n => ?_, fun a h => ?_, fun a h => hB a (ok.lb a h), fun j t q e1 h1 e2 => ?_, fun j a e => ?_⟩, fun a => ⟨own1 a, own2 a⟩, fun a _ z _ => own1 a z, fun a _ z _ => mut1 a z, fun a x e n => k a x e fun z => n (lentMut a z), tr⟩
  · obtain ⟨s, e1, q⟩ := back j s' e
    have old := ok.sl j s e1
    rcases q with ⟨rfl, hn⟩ | ⟨_, hs, d2, a2, rfl, e3, c⟩
    · -- not lent
      have keep : ∀ {p d}, σ[j]? = some (some (.ref p)) → held s' → OwnC K mg (Γ.O τ σ) H p d → OwnC K mg (({ Γ with B := B2 } : Fm).O τ2 σ) H' p d := fun {p d} ep hh ⟨xs, ds, e1', e2', r⟩ =>
        ⟨xs, ds, e1', k _ _ e2' fun z => by
          obtain ⟨i, s2, g1, g2, g3, g4⟩ := lent_slots ok hp ho p z
          exact hn (ok.dist j i s' s2 p e1 hh g2 (held_own g3) ep g4 ▸ g1), (r.stay st).weak hO⟩
      cases s' with
      | no => trivial
      | fz d => obtain ⟨v, e, r⟩ := old; exact ⟨v, e, (r.stay st).weak hO⟩
      | ow d => obtain ⟨a, e, ⟨g1, g2⟩, c⟩ := old; exact ⟨a, e, ⟨g1, nB (let ⟨xs, ds, _, e, _⟩ := c; ⟨_, e⟩) g2⟩, keep e trivial c⟩
      | ln d => obtain ⟨a, e, ⟨g1, g2⟩, c⟩ := old; exact ⟨a, e, ⟨g1, hB _ g2⟩, keep e trivial c⟩
      | lk d l =>
        obtain ⟨a, e, g, c⟩ := old
        exact ⟨a, e, g.elim (fun g => .inl ⟨g.1, g.2.1, nB (let ⟨xs, ds, _, e, _⟩ := c; ⟨_, e⟩) g.2.2⟩) (fun g => .inr ⟨g.1, g.2.1, hB _ g.2.2⟩), keep e trivial c⟩
    · cases s with
      | no => cases hs
      | fz d => cases hs
      | lk d l => cases hs
      | ow d =>
        obtain ⟨a, e, ⟨g1, g2⟩, c0⟩ := old
        rw [e3] at e; cases e
        exact ⟨a2, e3, ⟨g1, nB (let ⟨xs, ds, _, e, _⟩ := c0; ⟨_, e⟩) g2⟩, hC c⟩
      | ln d =>
        obtain ⟨a, e, ⟨g1, g2⟩, c0⟩ := old
        rw [e3] at e; cases e
        exact ⟨a2, e3, ⟨g1, hB _ g2⟩, hC c⟩
  · have hb : ∀ j t, τ2[j]? = some t → held t → ∃ s, τ[j]? = some s ∧ held s := fun j t e h => by
      obtain ⟨s, e1, q⟩ := back j t e
      rcases q with ⟨rfl, _⟩ | ⟨_, hs, _⟩
      · exact ⟨_, e1, h⟩
      · exact ⟨s, e1, held_own hs⟩
    obtain ⟨s1, g1, g2⟩ := hb j t e1 h1
    obtain ⟨s2, g3, g4⟩ := hb k u e2 h2
    exact ok.dist j k s1 s2 p g1 g2 g3 g4 e3 e4
  · refine k a o (ok.fr a o e n) fun z => ?_
    obtain ⟨i, s2, g1, g2, g3, g4⟩ := lent_slots ok hp ho a z
    have q := ok.sl i s2 g2
    cases s2 with
    | no => cases g3
    | fz d => cases g3
    | lk d l => cases g3
    | ow d => obtain ⟨p, e5, ⟨g5, _⟩, _⟩ := q; rw [g4] at e5; cases e5; rw [e] at g5; cases g5
    | ln d => obtain ⟨p, e5, ⟨g5, _⟩, _⟩ := q; rw [g4] at e5; cases e5; exact n g5
  · rcases hB2 a h with h | ⟨_, h⟩
    · obtain ⟨o, e⟩ := ok.bt a h
      exact tr a o e
    · exact h
  · obtain ⟨s, g1, q1⟩ := back j t e1
    rcases q1 with ⟨rfl, _⟩ | ⟨_, hs, _⟩
    · exact ok.la j _ q g1 h1 e2
    · exact ok.la j _ q g1 (held_own hs) e2
  · obtain ⟨h1, d', l, h2⟩ := ok.pn j a e
    obtain ⟨s', e1⟩ := forth j _ h2
    obtain ⟨s, e2, q⟩ := back j s' e1
    rw [h2] at e2; cases e2
    rcases q with ⟨rfl, _⟩ | ⟨_, hs, _⟩
    · exact ⟨h1, d', l, e1⟩
    · cases hs
end

/-! ### a call -/
section
variable {X : Cx} {e : Expr} {es : List Expr} {pos p : Pos} {x : Str} {f : Addr} {fd : FuncData} {ps : List Str} {k : Nat} {ms : List Bool} {G : List D → Out} {Al : List Arg}
theorem call_rd {Γ : Fm} {σ : L2.St} {H : Hp} {Q : VK} {K : PySem.W.Frag} {mg : Str → Option Value} {E : XK} (nd : (slotsA Al).Nodup) (h : rd K mg Γ (fCall G Al) σ H Q) : rdA K mg Γ Al σ H fun vs H1 => spG K mg (modes Al) G vs H1 Q E := by
  obtain ⟨τ, ok, h⟩ := h
  refine ⟨τ, ok, ?_⟩
  unfold fCall at h
  cases e1 : fArgs Al τ with
  | bad => rw [e1] at h; exact h
  | ex e' τ' => rw [e1] at h; exact h
  | ok ps τ1 =>
    simp only [e1, R.bind] at h
    intro vs H1 s ok1 hp
    by_cases ho : ownAll τ1 ps = true
    · rw [if_pos ho] at h
      cases e2 : resAll τ1 ps with
      | none => rw [e2] at h; exact h.elim
      | some ds =>
        simp only [e2] at h
        have hm := fArgs_modes e1
        have hsl := fArgs_slots e1
        refine ⟨Γ.O τ1 σ, ds, hm ▸ args_ok ok1 hp ho e2, hm ▸ lent_nodup ok1 hp ho (hsl ▸ nd), fun a z => ?_, ?_⟩
        · rcases z with z | ⟨i, d, z, e⟩
          · exact ok1.bt a z
          · rcases z with z | z
            · obtain ⟨p, e', _, xs, ds, _, e2, _⟩ := ok1.sl i _ z
              rw [e] at e'; cases e'; exact ⟨_, e2⟩
            · obtain ⟨p, e', _, xs, ds, _, e2, _⟩ := ok1.sl i _ z
              rw [e] at e'; cases e'; exact ⟨_, e2⟩
        · cases e3 : G ds with
          | bad => rw [e3] at h; exact h.elim
          | ex e' refs => rw [e3] at h; exact h.elim
          | ok d fr refs =>
            simp only [e3] at h
            cases e4 : putRefs ps refs τ1 with
            | none => rw [e4] at h; exact h.elim
            | some τ2 =>
              simp only [e4] at h
              intro v H' kk res
              rw [← hm] at kk res
              cases fr with
              | false =>
                obtain ⟨hr, rp⟩ := res
                obtain ⟨ok2, ow, s2⟩ := ok1.back (B2 := Γ.B) hp ho kk (fun _ z => z) (fun _ z => .inl z) hr e4
                refine h v H' ⟨s.trans s2, ok2, rp.weak fun a z => ?_⟩
                exact z.elim .inl fun z => .inr ((ow a).mp z)
              | true =>
                obtain ⟨p, ev, hpn, hr, c⟩ := res
                have hr' : RefsOk K mg (fun a => (Γ.add p).B a ∨ ownS τ1 σ a) H' (lent (modesP ps) vs) refs := by
                  have : (fun a => (Γ.add p).B a ∨ ownS τ1 σ a) = (fun a => Γ.O τ1 σ a ∨ a = p) := by
                    funext a
                    show ((Γ.B a ∨ a = p) ∨ ownS τ1 σ a) = ((Γ.B a ∨ ownS τ1 σ a) ∨ a = p)
                    exact propext ⟨fun z => by rcases z with (z | z) | z; exact .inl (.inl z); exact .inr z; exact .inl (.inr z), fun z => by rcases z with (z | z) | z; exact .inl (.inl z); exact .inr z; exact .inl (.inr z)⟩
                  rw [this]
                  exact hr
                obtain ⟨xs, ds', ed, e5, ra⟩ := c
                obtain ⟨ok2, ow, s2⟩ := ok1.back (B2 := (Γ.add p).B) hp ho kk (fun _ z => .inl z) (fun a z => z.elim .inl fun z => .inr ⟨by rw [z]; exact hpn, .lst xs, by rw [z]; exact e5⟩) hr' e4
                refine h v H' ⟨s.trans s2, p, ev, s.free hpn, ok2, xs, ds', ed, e5, ra.weak fun a z => ?_⟩
                rcases z with (z | z) | z
                · exact .inl (.inl z)
                · exact .inr z
                · exact .inl (.inr ((ow a).mp z))
    · rw [if_neg ho] at h; exact h.elim
theorem de_call (F : FnG X.prog X.w X.K X.mg X.base CX0 k f fd ps (spG X.K X.mg ms G)) (hr : Room k X.A) (hG : X.A.guards = some []) (hg : Gl X x) (hm : X.mg x = some (.ref f)) (hk : PySem.W.keepIn X.K (.ref f) = true) (hb : Binds X.K fd ps [])
    (ha : DA X (e :: es) Al) (hms : modes Al = ms) (nd : (slotsA Al).Nodup) (hdb : (x == ("__debug__" : Str)) = false := by decide) (he : starEach (e :: es) X.env = (false, eval e X.env) :: starEach es X.env := by rfl) (hpl : (backTo pos (starEach es X.env)).any (·.1) = false := by rfl) :
    DE X (.Call (.Name x p) (e :: es) [] pos) (fCall G Al) := fun Γ => peM (pe_callG F hr hG hg hm hk hb .nil pass0 (ha Γ) hdb he hpl) fun σ H Q hq => by
  subst hms
  obtain ⟨τ, ok, h⟩ := call_rd (E := E0) nd hq
  refine ⟨τ, ok, ?_⟩
  cases e1 : fArgs Al τ with
  | bad => rw [e1] at h; exact h
  | ex e' τ' => rw [e1] at h; exact h
  | ok ps τ1 =>
    rw [e1] at h
    intro vs H1 s ok1 hp
    show spG X.K X.mg (modes Al) G (vs ++ []) H1 Q _
    rw [List.append_nil]
    exact h vs H1 s ok1 hp
end

/-! ### a def -/
section
variable {P : Program} {w : World} {K : PySem.W.Frag} {mg : Str → Option Value} {base : Heap} {x qual : Str} {st : Stmt} {f : Addr} {fd : FuncData} {N ps : List Str} {k more : Nat} {ms : List Bool} {F : Sm}
/-- the address of the i-th argument -/
def addrAt (vs : List V) (i : Nat) : Addr := match vs[i]? with
  | some (.ref a) => a
  | _ => 0
theorem args_len {B : As} {H : Hp} {vs : List V} {ds : List D} (h : ArgsOk K mg B H ms vs ds) : ms.length = vs.length ∧ vs.length = ds.length := by
  induction h with
  | nil => exact ⟨rfl, rfl⟩
  | val _ _ ih => simp only [List.length_cons]; omega
  | ref _ _ _ ih => simp only [List.length_cons]; omega
theorem lent_mem {a : Addr} : ∀ {ms : List Bool} {vs : List V}, a ∈ lent ms vs → ∃ i : Nat, ms[i]? = some true ∧ vs[i]? = some (.ref a)
  | [], [], h => by cases h
  | [], _ :: _, h => by cases h
  | true :: ms, [], h => by cases h
  | false :: ms, [], h => by cases h
  | true :: ms, v :: vs, h => by
    cases v with
    | ref p =>
      rcases List.mem_cons.mp (show a ∈ p :: lent ms vs from h) with rfl | h
      · exact ⟨0, rfl, rfl⟩
      · obtain ⟨i, h1, h2⟩ := lent_mem h
        exact ⟨i + 1, by simpa using h1, by simpa using h2⟩
    | _ =>
      obtain ⟨i, h1, h2⟩ := lent_mem (ms := ms) (vs := vs) h
      exact ⟨i + 1, by simpa using h1, by simpa using h2⟩
  | false :: ms, v :: vs, h => by
    have h' : a ∈ lent ms vs := by cases v <;> exact h
    obtain ⟨i, h1, h2⟩ := lent_mem h'
    exact ⟨i + 1, by simpa using h1, by simpa using h2⟩
theorem lent_at {a : Addr} : ∀ {ms : List Bool} {vs : List V} {i : Nat}, ms[i]? = some true → vs[i]? = some (.ref a) → a ∈ lent ms vs
  | [], _, i, h, _ => by simp at h
  | _ :: _, [], i, _, h => by simp at h
  | m :: ms, v :: vs, 0, h1, h2 => by
    simp at h1 h2; subst h1; subst h2
    exact List.mem_cons_self
  | m :: ms, v :: vs, i + 1, h1, h2 => by
    have q := lent_at (ms := ms) (vs := vs) (i := i) (by simpa using h1) (by simpa using h2)
    cases m with
    | false => cases v <;> exact q
    | true =>
      cases v with
      | ref p => exact List.mem_cons_of_mem _ q
      | _ => exact q
/-- two places of one lent address are one place -/
theorem lent_inj {a : Addr} : ∀ {ms : List Bool} {vs : List V} {i j : Nat}, (lent ms vs).Nodup → ms[i]? = some true → vs[i]? = some (.ref a) → ms[j]? = some true → vs[j]? = some (.ref a) → i = j
  | [], _, i, _, _, h, _, _, _ => by simp at h
  | _ :: _, [], i, _, _, _, h, _, _ => by simp at h
  | m :: ms, v :: vs, 0, 0, _, _, _, _, _ => rfl
  | m :: ms, v :: vs, 0, j + 1, nd, h1, h2, h3, h4 => by
    simp at h1 h2; subst h1; subst h2
    have nd' : a ∉ lent ms vs := (List.nodup_cons.mp (show (a :: lent ms vs).Nodup from nd)).1
    exact absurd (lent_at (by simpa using h3) (by simpa using h4)) nd'
  | m :: ms, v :: vs, i + 1, 0, nd, h1, h2, h3, h4 => by
    simp at h3 h4; subst h3; subst h4
    have nd' : a ∉ lent ms vs := (List.nodup_cons.mp (show (a :: lent ms vs).Nodup from nd)).1
    exact absurd (lent_at (by simpa using h1) (by simpa using h2)) nd'
  | m :: ms, v :: vs, i + 1, j + 1, nd, h1, h2, h3, h4 => by
    have nd' : (lent ms vs).Nodup := by
      cases m with
      | false => cases v <;> exact nd
      | true =>
        cases v with
        | ref p => exact (List.nodup_cons.mp (show (p :: lent ms vs).Nodup from nd)).2
        | _ => exact nd
    exact congrArg (· + 1) (lent_inj (i := i) (j := j) (a := a) nd' (by simpa using h1) (by simpa using h2) (by simpa using h3) (by simpa using h4))
/-- the slots at the entry -/
theorem startS_get {B : As} {H : Hp} : ∀ {ms : List Bool} {vs : List V} {ds : List D} {n : Nat} {τ : Stt}, ArgsOk K mg B H ms vs ds → startS ms ds n = some τ → τ.length = ms.length + n ∧ ∀ (i : Nat) (s : Sl), τ[i]? = some s →
    s = .no ∨ (∃ v d, s = .fz d ∧ vs[i]? = some v ∧ Rep K mg B H v d) ∨ ∃ p d, s = .ln d ∧ vs[i]? = some (.ref p) ∧ ms[i]? = some true ∧ B p ∧ OwnC K mg B H p d
  | [], _, _, n, τ, .nil, h => by
    cases h
    exact ⟨by simp, fun i s e => .inl (List.eq_of_mem_replicate (List.mem_of_getElem? e))⟩
  | false :: ms, _, _, n, τ, .val r t, h => by
    simp only [startS] at h
    cases e1 : startS ms _ n with
    | none => rw [e1] at h; cases h
    | some τ1 =>
      rw [e1] at h
      cases h
      obtain ⟨hl, hg⟩ := startS_get t e1
      refine ⟨by simp only [List.length_cons, hl]; omega, fun i s e => ?_⟩
      cases i with
      | zero => simp at e; subst e; exact .inr (.inl ⟨_, _, rfl, rfl, r⟩)
      | succ i =>
        rcases hg i s (by simpa using e) with h | ⟨v, d, h1, h2, h3⟩ | ⟨p, d, h1, h2, h3, h4⟩
        · exact .inl h
        · exact .inr (.inl ⟨v, d, h1, by simpa using h2, h3⟩)
        · exact .inr (.inr ⟨p, d, h1, by simpa using h2, by simpa using h3, h4⟩)
  | true :: ms, _, _, n, τ, .ref b c t, h => by
    obtain ⟨xs, ds', rfl, e2, ra⟩ := c
    simp only [startS] at h
    cases e1 : startS ms _ n with
    | none => rw [e1] at h; cases h
    | some τ1 =>
      rw [e1] at h
      cases h
      obtain ⟨hl, hg⟩ := startS_get t e1
      refine ⟨by simp only [List.length_cons, hl]; omega, fun i s e => ?_⟩
      cases i with
      | zero => simp at e; subst e; exact .inr (.inr ⟨_, _, rfl, rfl, rfl, b, xs, ds', rfl, e2, ra⟩)
      | succ i =>
        rcases hg i s (by simpa using e) with h | ⟨v, d, h1, h2, h3⟩ | ⟨p, d, h1, h2, h3, h4⟩
        · exact .inl h
        · exact .inr (.inl ⟨v, d, h1, by simpa using h2, h3⟩)
        · exact .inr (.inr ⟨p, d, h1, by simpa using h2, by simpa using h3, h4⟩)
/-- the lent lists at the end -/
theorem refsOf_ok {B : As} {H : Hp} : ∀ {ms : List Bool} {vs : List V} {τ : Stt} {rs : List D}, ms.length = vs.length → (∀ (i : Nat) (d : D), ms[i]? = some true → τ[i]? = some (.ln d) → ∃ a, vs[i]? = some (.ref a) ∧ OwnC K mg B H a d) → refsOf ms τ = some rs → RefsOk K mg B H (lent ms vs) rs
  | [], [], τ, rs, _, _, h => by cases h; exact .nil
  | _ :: _, _, [], rs, _, _, h => by cases h
  | m :: ms, [], _, _, hl, _, _ => by cases hl
  | true :: ms, v :: vs, s :: τ, rs, hl, hs, h => by
    cases s with
    | ln d =>
      have h' : (refsOf ms τ).map (d :: ·) = some rs := h
      cases e1 : refsOf ms τ with
      | none => rw [e1] at h'; cases h'
      | some rs' =>
        rw [e1] at h'
        cases h'
        obtain ⟨a, ea, c⟩ := hs 0 d rfl rfl
        simp at ea
        subst ea
        exact .cons c (refsOf_ok (by simpa using hl) (fun i d h1 h2 => by simpa using hs (i + 1) d (by simpa using h1) (by simpa using h2)) e1)
    | no => cases h
    | fz d => cases h
    | ow d => cases h
    | lk d l => cases h
  | false :: ms, v :: vs, s :: τ, rs, hl, hs, h => by
    have q := refsOf_ok (ms := ms) (vs := vs) (τ := τ) (rs := rs) (by simpa using hl) (fun i d h1 h2 => by simpa using hs (i + 1) d (by simpa using h1) (by simpa using h2)) h
    cases v <;> exact q
theorem args_ref {B : As} {H : Hp} : ∀ {ms : List Bool} {vs : List V} {ds : List D} {i : Nat}, ArgsOk K mg B H ms vs ds → ms[i]? = some true → ∃ a, vs[i]? = some (.ref a) ∧ B a
  | [], _, _, i, .nil, h => by simp at h
  | _ :: _, _, _, 0, .val _ _, h => by simp at h
  | _ :: _, _, _, i + 1, .val _ t, h => by
    obtain ⟨a, h1, h2⟩ := args_ref (i := i) t (by simpa using h)
    exact ⟨a, by simpa using h1, h2⟩
  | _ :: _, _, _, 0, .ref b _ _, h => ⟨_, rfl, b⟩
  | _ :: _, _, _, i + 1, .ref _ _ t, h => by
    obtain ⟨a, h1, h2⟩ := args_ref (i := i) t (by simpa using h)
    exact ⟨a, by simpa using h1, h2⟩
theorem fn_ok (Fn : Fun K x qual st f fd) (S : FnScope N ps (defScope st)) (hms : ms.length = ps.length) (hN : N.length = ps.length + more)
    (hbody : ∀ (cdv : Value) (A : Around) (outer : List Env) (s : Shared) (H : Hp) (E : XK), Room k (A.deeper (envOfC qual (defScope st) s.heap.objs.size f cdv)) → A.guards = some [] → DSs (cxOf CX0 P w K mg base N qual (defScope st) f cdv A outer s H E).nox (defBody st) F) :
    FnG P w K mg base CX0 (k + 1) f fd ps (spG K mg ms (fDef ms more F)) := by
  refine funG Fn S (fun vs H Q E h => ?_) fun cdv A outer s H vs Q E hr hG h => ?_
  · obtain ⟨B, ds, ha, _⟩ := h
    exact (args_len ha).1.symm.trans hms
  · obtain ⟨B, ds, ha, nd, hB, ho⟩ := h
    have hlen := args_len ha
    let Γ : Fm := ⟨B, H, fun a => a ∈ lent ms vs, addrAt vs, fun _ => none, fun _ _ => False⟩
    refine ⟨_, hbody cdv A outer s H E hr hG Γ, ?_⟩
    -- the state at the entry
    unfold fDef at ho
    cases e1 : startS ms ds more with
    | none => rw [e1] at ho; exact ho.elim
    | some τ =>
      simp only [e1] at ho
      obtain ⟨hl, hg⟩ := startS_get ha e1
      have sN : (L2.start N vs).length = N.length := by
        unfold L2.start
        rw [List.length_append, List.length_map, List.length_replicate]
        have : vs.length ≤ N.length := by omega
        omega
      have sG : ∀ (i : Nat) v, vs[i]? = some v → (L2.start N vs)[i]? = some (some v) := fun i v e => by
        have hi := (List.getElem?_eq_some_iff.mp e).1
        unfold L2.start
        rw [List.getElem?_append_left (by simpa using hi), List.getElem?_map, e]
        rfl
      have noOwn : ∀ a, ¬ ownS τ (L2.start N vs) a := fun a ⟨i, d, h, _⟩ => by
        rcases h with h | h <;> rcases hg i _ h with h | ⟨_, _, h, _⟩ | ⟨_, _, h, _⟩ <;> cases h
      have hO : Γ.O τ (L2.start N vs) = B := funext fun a => propext ⟨fun z => z.elim id fun z => (noOwn a z).elim, .inl⟩
      have lB : ∀ a, a ∈ lent ms vs → B a := fun a hm => by
        obtain ⟨i, h1, h2⟩ := lent_mem hm
        obtain ⟨a', e', b⟩ := args_ref ha h1
        rw [h2] at e'; cases e'
        exact b
      have ok : SOk K mg Γ τ (L2.start N vs) H := by
        refine ⟨by rw [hl, sN, hN, hms], fun i s e => ?_, fun i j s t p e1 h1 e2 h2 e3 e4 => ?_, fun a o e _ => e, hB, lB, fun i s p e1 h1 e2 _ => ?_, fun i a e => nomatch e⟩
        · rw [hO]
          rcases hg i s e with rfl | ⟨v, d, rfl, h2, h3⟩ | ⟨p, d, rfl, h2, h3, h4, h5⟩
          · trivial
          · exact ⟨v, sG i v h2, h3⟩
          · exact ⟨p, sG i _ h2, ⟨lent_at h3 h2, h4⟩, h5⟩
        · rcases hg i s e1 with rfl | ⟨v, d, rfl, _⟩ | ⟨p1, d1, rfl, g1, g2, _⟩
          · exact h1.elim
          · exact h1.elim
          · rcases hg j t e2 with rfl | ⟨v, d, rfl, _⟩ | ⟨p2, d2, rfl, g3, g4, _⟩
            · exact h2.elim
            · exact h2.elim
            · rw [sG i _ g1] at e3; cases e3
              rw [sG j _ g3] at e4; cases e4
              exact lent_inj nd g2 g1 g4 g3
        · rcases hg i s e1 with rfl | ⟨v, d, rfl, _⟩ | ⟨p1, d1, rfl, g1, g2, _⟩
          · exact h1.elim
          · exact h1.elim
          · rw [sG i _ g1] at e2; cases e2
            show p = addrAt vs i
            unfold addrAt
            rw [g1]
      refine ⟨τ, ok, ?_⟩
      -- what stands at the end
      have fin1 : ∀ {Γ' : Fm} {τ' : Stt} {σ' : L2.St} {H' : Hp} {rs : List D}, Γ'.L = Γ.L → Γ'.A = Γ.A → (∀ a, Γ'.B a → ∃ o, H' a = some o) → SOk K mg Γ' τ' σ' H' → refsOf ms τ' = some rs → RefsOk K mg (Γ'.O τ' σ') H' (lent ms vs) rs := fun {Γ' τ' σ' H' rs} eL eA _ ok' er => by
        refine refsOf_ok hlen.1 (fun i d h1 h2 => ?_) er
        obtain ⟨p, e2, ⟨g1, _⟩, c⟩ := ok'.sl i _ h2
        have ep := ok'.la i _ p h2 trivial e2 g1
        refine ⟨p, ?_, c⟩
        rw [eA] at ep
        have hi : i < vs.length := by rw [← hlen.1]; exact (List.getElem?_eq_some_iff.mp h1).1
        -- the i-th argument is a lent one: an address
        obtain ⟨a, q, _⟩ := args_ref ha h1
        rw [q, ep]
        show some (V.ref a) = some (.ref (addrAt vs i))
        unfold addrAt
        rw [q]
      cases e2 : F τ with
      | bad => rw [e2] at ho; exact ho.elim
      | ex e' τ' =>
        rw [e2] at ho
        cases e3 : refsOf ms τ' with
        | none => simp only [e3] at ho; exact ho.elim
        | some rs => simp only [e3] at ho; exact ho.elim
      | ok fl τ' =>
        simp only [e2] at ho
        cases e3 : refsOf ms τ' with
        | none => simp only [e3] at ho; exact ho.elim
        | some rs =>
          simp only [e3] at ho
          cases fl with
          | bk => exact ho.elim
          | ct => exact ho.elim
          | nx =>
            intro σ' H' s' ok'
            refine ho .non H' (fun a x e n => ok'.fr a x e n) ⟨?_, .non⟩
            have q := fin1 (Γ' := Γ) rfl rfl ok'.bt ok' e3
            have : ∀ {ls rs}, RefsOk K mg (Γ.O τ' σ') H' ls rs → RefsOk K mg B H' ls rs := fun h => by
              induction h with
              | nil => exact .nil
              | cons c _ ih => obtain ⟨xs, ds, g1, g2, g3⟩ := c; exact .cons ⟨xs, ds, g1, g2, g3.weak fun a z => .inl z⟩ ih
            exact this q
          | rt r =>
            intro v σ' H' pr
            obtain ⟨d, fr⟩ := r
            have weakR : ∀ {O O' : As} {ls rs}, (∀ a, O' a → O a) → RefsOk K mg O H' ls rs → RefsOk K mg O' H' ls rs := fun hO h => by
              induction h with
              | nil => exact .nil
              | cons c _ ih => obtain ⟨xs, ds, g1, g2, g3⟩ := c; exact .cons ⟨xs, ds, g1, g2, g3.weak hO⟩ ih
            cases fr with
            | false =>
              obtain ⟨ok', rp⟩ := pr
              exact ho v H' (fun a x e n => ok'.fr a x e n) ⟨weakR (fun a z => .inl z) (fin1 (Γ' := Γ) rfl rfl ok'.bt ok' e3), rp.weak fun a z => .inl z⟩
            | true =>
              obtain ⟨p, ev, h0, ok', xs, ds', ed, eH, ra⟩ := pr
              exact ho v H' (fun a x e n => ok'.fr a x e n) ⟨p, ev, h0, weakR (fun a z => .inl z) (fin1 (Γ' := Γ.add p) rfl rfl ok'.bt ok' e3), xs, ds', ed, eH, ra.weak fun a z => .inl z⟩
end
end Wt
set_option autoImplicit false
set_option Elab.async false
set_option linter.all false
set_option maxRecDepth 100000
/-! Wt.Loop: targets, what is walked, for. -/
namespace Wt
open PySem PySem.Spec PyProof.Rows L2 RZ

/-! ### targets -/
mutual
def Tg.slots : Tg → List Nat
  | .nm i => [i]
  | .tp ts => Tg.slotsL ts
def Tg.slotsL : List Tg → List Nat
  | [] => []
  | t :: ts => t.slots ++ Tg.slotsL ts
end
def rdG (K : PySem.W.Frag) (mg : Str → Option Value) (Γ : Fm) (tg : Tg) : TG := fun v σ H Q => ∃ τ d, SOk K mg Γ τ σ H ∧ Rep K mg (Γ.O τ σ) H v d ∧ match tg.put d τ with
  | some τ' => ∀ σ' H', Step σ τ H σ' τ' H' → SOk K mg Γ τ' σ' H' → (∀ j, j ∉ tg.slots → σ'[j]? = σ[j]?) → Q σ' H'
  | none => False
def rdGs (K : PySem.W.Frag) (mg : Str → Option Value) (Γ : Fm) (ts : List Tg) : TGs := fun vs σ H Q => ∃ τ ds, SOk K mg Γ τ σ H ∧ RepA K mg (Γ.O τ σ) H vs ds ∧ match Tg.puts ts ds τ with
  | some τ' => ∀ σ' H', Step σ τ H σ' τ' H' → SOk K mg Γ τ' σ' H' → (∀ j, j ∉ Tg.slotsL ts → σ'[j]? = σ[j]?) → Q σ' H'
  | none => False
theorem pgM {X : Cx} {e : Expr} {t t' : TG} (h : PG X e t) (m : ∀ v σ H Q, t' v σ H Q → t v σ H Q) : PG X e t' := ⟨fun pins s σ H v u Q I r q => h.run pins s σ H v u Q I r (m _ _ _ _ q)⟩
theorem pgsM {X : Cx} {es : List Expr} {t t' : TGs} (h : PGs X es t) (m : ∀ vs σ H Q, t' vs σ H Q → t vs σ H Q) : PGs X es t' := ⟨fun pins s σ H vs us Q I r q => h.run pins s σ H vs us Q I r (m _ _ _ _ q)⟩
def DG (X : Cx) (e : Expr) (tg : Tg) : Prop := ∀ Γ, PG X e (rdG X.K X.mg Γ tg)
def DGs (X : Cx) (es : List Expr) (ts : List Tg) : Prop := ∀ Γ, PGs X es (rdGs X.K X.mg Γ ts)
section
variable {X : Cx} {e : Expr} {es : List Expr} {t : Tg} {ts : List Tg} {i : Nat} {x : Str} {pos : Pos}
theorem dg_nm (hN : X.N.Nodup) (hi : X.N[i]? = some x) (hx : Loc X.env.scope x) (hf : X.fn x = true ∨ X.env.scope.names.lookup x = some .local := by first | exact .inl rfl | exact .inr rfl | assumption) : DG X (.Name x pos) (.nm i) := fun Γ => pgM (pg_name hN hi hx hf) fun v σ H Q h => by
  obtain ⟨τ, d, ok, rp, h⟩ := h
  simp only [Tg.put] at h
  cases e1 : τ[i]? with
  | none => simp only [e1] at h
  | some s =>
    have go : ∀ (h0 : s = .no ∨ (∃ d, s = .fz d) ∨ ∃ d, s = .ow d), (∀ σ' H', Step σ τ H σ' (τ.set i (.fz d)) H' → SOk X.K X.mg Γ (τ.set i (.fz d)) σ' H' → (∀ j, j ∉ (Tg.nm i).slots → σ'[j]? = σ[j]?) → Q σ' H') → gName i v σ H Q := fun h0 h => by
      obtain ⟨ok2, s2⟩ := ok.store_fz e1 h0 rp
      exact h _ H s2 ok2 fun j hj => List.getElem?_set_ne (fun z => hj (by simp [Tg.slots, z]))
    cases s with
    | no => simp only [e1] at h; exact go (.inl rfl) h
    | fz d' => simp only [e1] at h; exact go (.inr (.inl ⟨d', rfl⟩)) h
    | ow d' => simp only [e1] at h; exact go (.inr (.inr ⟨d', rfl⟩)) h
    | ln d' => simp only [e1] at h
    | lk d' l => simp only [e1] at h
theorem dgs_nil : DGs X [] [] := fun Γ => pgsM pgs_nil fun vs σ H Q h => by
  obtain ⟨τ, ds, ok, rp, h⟩ := h
  cases ds with
  | nil => cases rp; exact ⟨rfl, h σ H .refl ok fun _ _ => rfl⟩
  | cons d ds => exact h.elim
theorem dgs_cons (h1 : DG X e t) (h2 : DGs X es ts) (hs : (assignEach (e :: es) X.env).map (·.2) = assign e X.env :: (assignEach es X.env).map (·.2) := by rfl) : DGs X (e :: es) (t :: ts) := fun Γ => pgsM (pgs_cons (h1 Γ) (h2 Γ) hs) fun vs σ H Q h => by
  obtain ⟨τ, ds, ok, rp, h⟩ := h
  cases ds with
  | nil => exact h.elim
  | cons d ds =>
    cases rp with
    | cons r rr =>
      refine ⟨_, _, rfl, τ, d, ok, r, ?_⟩
      simp only [Tg.puts] at h
      cases e1 : t.put d τ with
      | none => simp only [e1] at h
      | some τ1 =>
        simp only [e1] at h
        intro σ1 H1 s1 ok1 a1
        refine ⟨τ1, ds, ok1, rr.stay (s1.stay ok), ?_⟩
        cases e2 : Tg.puts ts ds τ1 with
        | none => rw [e2] at h; exact h.elim
        | some τ2 => rw [e2] at h; exact fun σ2 H2 s2 ok2 a2 => h σ2 H2 (s1.trans s2) ok2 fun j hj => (a2 j fun z => hj (List.mem_append_right _ z)).trans (a1 j fun z => hj (List.mem_append_left _ z))
theorem puts_len' : ∀ {ts : List Tg} {ds : List D} {τ τ' : Stt}, Tg.puts ts ds τ = some τ' → ts.length = ds.length
  | [], [], _, _, _ => rfl
  | [], _ :: _, _, _, h => by cases h
  | _ :: _, [], _, _, h => by cases h
  | t :: ts, d :: ds, τ, τ', h => by
    simp only [Tg.puts] at h
    cases e1 : t.put d τ with
    | none => rw [e1] at h; cases h
    | some τ1 => rw [e1] at h; simp only [List.length_cons, puts_len' h]
theorem pg_or {t t' : TG} (a : PG X e t) (b : PG X e t') : PG X e (fun v σ H Q => t v σ H Q ∨ t' v σ H Q) :=
  ⟨fun pins s σ H v u Q I r h => h.elim (a.run pins s σ H v u Q I r) (b.run pins s σ H v u Q I r)⟩
/-- (a, b, ..): from a tuple or a list -/
theorem dg_tp {k n : Nat} (hc : X.calm = true) (h : DGs X es ts) (hts : ts.length = n) (hn : (assignEach es X.env).length = n := by rfl) (hst : (assignEach es X.env).findIdx? (·.1) = none := by rfl) : DG X (.Tuple es k pos) (.tp ts) := fun Γ => pgM (pg_or (pg_tup hc (h Γ) hn hst) (pg_unl hc (h Γ) hn hst)) fun v σ H Q hq => by
  obtain ⟨τ, d, ok, rp, hq⟩ := hq
  have hl : ∀ ds : List D, (match Tg.puts ts ds τ with
      | some τ' => ∀ σ' H', Step σ τ H σ' τ' H' → SOk X.K X.mg Γ τ' σ' H' → (∀ j, j ∉ (Tg.tp ts).slots → σ'[j]? = σ[j]?) → Q σ' H'
      | none => False) → ds.length = n := fun ds hq => by
    cases e1 : Tg.puts ts ds τ with
    | none => rw [e1] at hq; exact hq.elim
    | some τ' => rw [← puts_len' e1, hts]
  cases rp with
  | tup hS ra =>
    rename_i a xs ds
    simp only [Tg.put] at hq
    exact .inl ⟨a, xs, rfl, hS, by rw [ra.length]; exact hl ds hq, τ, ds, ok, ra, hq⟩
  | lst hn hS ra =>
    rename_i a xs ds
    simp only [Tg.put] at hq
    exact .inr ⟨a, xs, rfl, .inl hS, by rw [ra.length]; exact hl ds hq, τ, ds, ok, ra, hq⟩
  | lstW k1 k2 k3 k4 k5 k6 ra =>
    rename_i a xs ds o its m
    simp only [Tg.put] at hq
    exact .inr ⟨a, xs, rfl, .inr ⟨_, _, _, k1, k2, k3, k4, k5, k6⟩, by rw [ra.length]; exact hl _ hq, τ, _, ok, ra, hq⟩
  | _ => exact hq.elim
end

/-! ### what is walked -/
/-- J walks the items ds, as long as G holds -/
structure Wk (K : PySem.W.Frag) (mg : Str → Option Value) (J : L2.It) (ds : List D) (G : As → As → Hp → Prop) : Prop where
  keep : ∀ O M H O' M' H', G O M H → Stay O H O' H' → (∀ a x, H a = some x → ¬ M a → H' a = some x) → (∀ a x, M' a → H a = some x → M a) → G O' M' H'
  go : ∀ O M H (i : Nat), G O M H → i < ds.length → J.go i H
  yld : ∀ O M H (i : Nat) d v H', G O M H → ds[i]? = some d → J.yld i H v H' → (∀ a o, H a = some o → H' a = some o) ∧ Rep K mg O H' v d
  stop : ∀ O M H, G O M H → J.stop ds.length H
def rdI (K : PySem.W.Frag) (mg : Str → Option Value) (Γ : Fm) (it : It) : TI := fun σ H R => ∃ τ, SOk K mg Γ τ σ H ∧ match it.run τ with
  | .ok ds τ' => ∀ J G H', Step σ τ H σ τ' H' → SOk K mg Γ τ' σ H' → Wk K mg J ds G → G (Γ.O τ' σ) (mutS τ' σ) H' → R J H'
  | .ex e τ' => Γ.xw e τ'
  | .bad => False
def DI (X : Cx) (tg e : Expr) (it : It) : Prop := ∀ Γ, PI X tg e (rdI X.K X.mg Γ it)
theorem piM {X : Cx} {tg e : Expr} {t t' : TI} (h : PI X tg e t) (m : ∀ σ H R, t' σ H R → t σ H R) : PI X tg e t' := ⟨fun pins s σ H R I q => h.run pins s σ H R I (m _ _ _ q)⟩
/-- a list or a tuple -/
def iSeq (K : PySem.W.Frag) (tl : TE) : TI := fun σ H R => tl σ H fun x H1 => ∃ a, x = .ref a ∧ (((∃ xs, SqL K H1 a xs) ∧ R (Itl K a) H1) ∨ ((∃ xs, SqT K H1 a xs) ∧ R (Itt K a) H1))
theorem pi_seq {X : Cx} {tg l : Expr} {tl : TE} (hl : PE X l tl) : PI X tg l (iSeq X.K tl) := by
  refine ⟨fun pins s σ H R I h => ?_⟩
  refine thn (hl.run pins s σ H _ I h) fun v s1 ⟨x, H1, I1, r1, q1⟩ => ?_
  obtain ⟨a, e, q⟩ := q1
  subst e
  cases r1
  rcases q with ⟨⟨xs, hq⟩, q⟩ | ⟨⟨xs, hq⟩, q⟩
  · obtain ⟨its, rv, p, hz⟩ := I1.list hq
    refine wpAny_pyIter_list p.isList ?_
    refine ⟨s1.heap.objs.size, [s1.heap.objs.size], _, _, H1, rfl, I1.kept (t' := s1.toks) fun b o e => Heap.get?_push_of_some _ e, turn_list a _, ⟨_, Heap.get?_push_size _ rfl, rfl, rfl⟩, fun b hb => ?_, q⟩
    have e : b = s1.heap.objs.size := by simpa using hb
    subst e
    exact I1.fpOk (Nat.le_refl _) (I1.hok.fresh (Nat.le_refl _))
  · obtain ⟨its, rv, p, hz⟩ := I1.tuple hq
    refine wpAny_pyIter_tuple (show s1.heap.IsTuple a its.toArray from p) ?_
    refine ⟨s1.heap.objs.size, [s1.heap.objs.size], _, _, H1, rfl, I1.kept (t' := s1.toks) fun b o e => Heap.get?_push_of_some _ e, turn_tuple a _, ⟨_, Heap.get?_push_size _ rfl, rfl, rfl⟩, fun b hb => ?_, q⟩
    have e : b = s1.heap.objs.size := by simpa using hb
    subst e
    exact I1.fpOk (Nat.le_refl _) (I1.hok.fresh (Nat.le_refl _))

section
variable {K : PySem.W.Frag} {mg : Str → Option Value}
/-- a list of the written part -/
def LW (K : PySem.W.Frag) (a : Addr) (xs : List V) : Prop := ∃ (o : Obj) (its : Array Value) (n : Nat), K.lookup a = some o ∧ o.cls = .type "list" ∧ o.dict = none ∧ o.data = .seq its n ∧ its.size ≤ sizeLine ∧ Vals xs its.toList
/-- a list that stays -/
def GL (K : PySem.W.Frag) (mg : Str → Option Value) (a : Addr) (ds : List D) : As → As → Hp → Prop := fun O M H => ∃ xs, ((Rd H a (.lst xs) ∧ ¬ M a) ∨ LW K a xs) ∧ RepA K mg O H xs ds
def GT (K : PySem.W.Frag) (mg : Str → Option Value) (a : Addr) (ds : List D) : As → As → Hp → Prop := fun O _ H => ∃ xs, SqT K H a xs ∧ RepA K mg O H xs ds
theorem GL.keep {a : Addr} {ds : List D} {O M O' M' : As} {H H' : Hp} (h : GL K mg a ds O M H) (st : Stay O H O' H') (k : ∀ a x, H a = some x → ¬ M a → H' a = some x) (m : ∀ a x, M' a → H a = some x → M a) : GL K mg a ds O' M' H' := by
  obtain ⟨xs, h1, h3⟩ := h
  refine ⟨xs, ?_, h3.stay st⟩
  rcases h1 with ⟨h1, h2⟩ | h1
  · obtain ⟨x, e⟩ := rd_some h1
    refine .inl ⟨?_, fun z => h2 (m a x z e)⟩
    rcases h1 with h1 | ⟨o, h1⟩
    · exact .inl (k _ _ h1 h2)
    · exact .inr ⟨o, k _ _ h1 h2⟩
  · exact .inr h1
theorem GL.sq {a : Addr} {ds : List D} {O M : As} {H : Hp} (h : GL K mg a ds O M H) : ∃ xs, SqL K H a xs ∧ RepA K mg O H xs ds := by
  obtain ⟨xs, h1, h3⟩ := h
  exact ⟨xs, h1.elim (fun z => .inl z.1) .inr, h3⟩
theorem wk_list (a : Addr) (ds : List D) : Wk K mg (Itl K a) ds (GL K mg a ds) where
  keep := fun O M H O' M' H' h st k m => h.keep st k m
  go := fun O M H i h hi => by
    obtain ⟨xs, h1, h2⟩ := h.sq
    have : i < xs.length := by rw [h2.length]; exact hi
    exact ⟨xs, xs[i], h1, List.getElem?_eq_getElem this⟩
  yld := fun O M H i d v H' h e y => by
    obtain ⟨xs, h1, h2⟩ := h.sq
    obtain ⟨rfl, y⟩ := y
    obtain ⟨u, e1, r⟩ := h2.get e
    have e2 := y xs h1
    rw [e1] at e2; cases e2
    exact ⟨fun _ _ e => e, r⟩
  stop := fun O M H h => by
    obtain ⟨xs, h1, h2⟩ := h.sq
    exact ⟨xs, h1, Nat.le_of_eq h2.length⟩
theorem wk_tup (a : Addr) (ds : List D) : Wk K mg (Itt K a) ds (GT K mg a ds) where
  keep := fun O M H O' M' H' h st k m => let ⟨xs, h1, h2⟩ := h; ⟨xs, st.sqT h1, h2.stay st⟩
  go := fun O M H i h hi => by
    obtain ⟨xs, h1, h2⟩ := h
    have : i < xs.length := by rw [h2.length]; exact hi
    exact ⟨xs, xs[i], h1, List.getElem?_eq_getElem this⟩
  yld := fun O M H i d v H' h e y => by
    obtain ⟨xs, h1, h2⟩ := h
    obtain ⟨rfl, y⟩ := y
    obtain ⟨u, e1, r⟩ := h2.get e
    have e2 := y xs h1
    rw [e1] at e2; cases e2
    exact ⟨fun _ _ e => e, r⟩
  stop := fun O M H h => by
    obtain ⟨xs, h1, h2⟩ := h
    exact ⟨xs, h1, Nat.le_of_eq h2.length⟩
theorem rangeD_len (a b : Int) : (rangeD a b).length = (b - a).toNat := by unfold rangeD; rw [List.length_map, List.length_range]
theorem wk_rng (a b : Int) : Wk K mg (Itr a (b - a).toNat) (rangeD a b) (fun _ _ _ => True) where
  keep := fun _ _ _ _ _ _ _ _ _ _ => trivial
  go := fun O M H i h hi => by rw [rangeD_len] at hi; exact hi
  yld := fun O M H i d v H' h e y => by
    obtain ⟨rfl, rfl⟩ := y
    refine ⟨fun _ _ e => e, ?_⟩
    unfold rangeD at e
    rw [List.getElem?_map] at e
    cases q : (List.range (b - a).toNat)[i]? with
    | none => rw [q] at e; cases e
    | some k =>
      rw [q] at e
      obtain ⟨h1, h2⟩ := List.getElem?_eq_some_iff.mp q
      rw [List.getElem_range] at h2
      subst h2
      cases e
      exact .int _
  stop := fun O M H h => by rw [rangeD_len]; exact Nat.le_refl _
theorem enumD_get : ∀ {ds : List D} {k i : Nat} {d : D}, (enumD k ds)[i]? = some d → ∃ e, ds[i]? = some e ∧ d = .tup [.int ((k + i : Nat) : Int), e]
  | [], _, _, _, h => by simp [enumD] at h
  | x :: ds, k, 0, d, h => by simp [enumD] at h; exact ⟨x, rfl, h.symm⟩
  | x :: ds, k, i + 1, d, h => by
    obtain ⟨e, h1, h2⟩ := enumD_get (ds := ds) (k := k + 1) (i := i) (by simpa [enumD] using h)
    refine ⟨e, by simpa using h1, ?_⟩
    rw [h2, show k + 1 + i = k + (i + 1) by omega]
theorem enumD_len : ∀ (ds : List D) (k : Nat), (enumD k ds).length = ds.length
  | [], _ => rfl
  | x :: ds, k => by simp only [enumD, List.length_cons, enumD_len ds (k + 1)]
theorem zipD_get : ∀ {ds es : List D} {i : Nat} {d : D}, (zipD ds es)[i]? = some d → ∃ a b, ds[i]? = some a ∧ es[i]? = some b ∧ d = .tup [a, b]
  | [], _, _, _, h => by simp [zipD] at h
  | _ :: _, [], _, _, h => by simp [zipD] at h
  | x :: ds, y :: es, 0, d, h => by simp [zipD] at h; exact ⟨x, y, rfl, rfl, h.symm⟩
  | x :: ds, y :: es, i + 1, d, h => by
    obtain ⟨a, b, h1, h2, h3⟩ := zipD_get (ds := ds) (es := es) (i := i) (by simpa [zipD] using h)
    exact ⟨a, b, by simpa using h1, by simpa using h2, h3⟩
theorem zipD_len : ∀ (ds es : List D), (zipD ds es).length = min ds.length es.length
  | [], es => by simp [zipD]
  | _ :: _, [] => by simp [zipD]
  | x :: ds, y :: es => by simp only [zipD, List.length_cons, zipD_len ds es]; omega
theorem rep_new {O : As} {H : Hp} {T : Addr} {xs : List V} {ds : List D} (hT : H T = none) (r : RepA K mg O H xs ds) : (∀ a o, H a = some o → upd H T (.tup xs) a = some o) ∧ Rep K mg O (upd H T (.tup xs)) (.ref T) (.tup ds) := by
  have k : ∀ a o, H a = some o → upd H T (.tup xs) a = some o := fun a o e => by rw [upd_ne (ne_of_none e hT)]; exact e
  exact ⟨k, .tup (.inl (.inl upd_same)) (r.stay ⟨fun _ _ h _ => h, fun a x e _ => k a x e⟩)⟩
theorem wk_enum (a : Addr) (ds : List D) : Wk K mg (Ite K a) (enumD 0 ds) (GL K mg a ds) where
  keep := fun O M H O' M' H' h st k m => h.keep st k m
  go := fun O M H i h hi => by
    obtain ⟨xs, h1, h2⟩ := h.sq
    rw [enumD_len] at hi
    have : i < xs.length := by rw [h2.length]; exact hi
    exact ⟨xs, xs[i], h1, List.getElem?_eq_getElem this⟩
  yld := fun O M H i d v H' h e y => by
    obtain ⟨xs, h1, h2⟩ := h.sq
    obtain ⟨T, x, rfl, hT, rfl, y⟩ := y
    obtain ⟨e', e1, rfl⟩ := enumD_get e
    obtain ⟨u, e2, r⟩ := h2.get e1
    have e3 := y xs h1
    rw [e2] at e3; cases e3
    rw [Nat.zero_add]
    exact rep_new hT (.cons (.int _) (.cons r .nil))
  stop := fun O M H h => by
    obtain ⟨xs, h1, h2⟩ := h.sq
    rw [enumD_len]
    exact ⟨xs, h1, Nat.le_of_eq h2.length⟩
theorem wk_zip (a b : Addr) (ds es : List D) : Wk K mg (Itz K a b) (zipD ds es) (fun O M H => GL K mg a ds O M H ∧ GL K mg b es O M H) where
  keep := fun O M H O' M' H' h st k m => ⟨h.1.keep st k m, h.2.keep st k m⟩
  go := fun O M H i h hi => by
    obtain ⟨xs, h1, h2⟩ := h.1.sq
    obtain ⟨ys, h3, h4⟩ := h.2.sq
    rw [zipD_len] at hi
    have hx : i < xs.length := by rw [h2.length]; omega
    have hy : i < ys.length := by rw [h4.length]; omega
    exact ⟨xs, ys, xs[i], ys[i], h1, h3, List.getElem?_eq_getElem hx, List.getElem?_eq_getElem hy⟩
  yld := fun O M H i d v H' h e y => by
    obtain ⟨xs, h1, h2⟩ := h.1.sq
    obtain ⟨ys, h3, h4⟩ := h.2.sq
    obtain ⟨T, x, x', rfl, hT, rfl, y1, y2⟩ := y
    obtain ⟨d1, d2, e1, e2, rfl⟩ := zipD_get e
    obtain ⟨u, e3, r⟩ := h2.get e1
    obtain ⟨u', e4, r'⟩ := h4.get e2
    have e5 := y1 xs h1
    have e6 := y2 ys h3
    rw [e3] at e5; cases e5
    rw [e4] at e6; cases e6
    exact rep_new hT (.cons r (.cons r' .nil))
  stop := fun O M H h => by
    obtain ⟨xs, h1, h2⟩ := h.1.sq
    obtain ⟨ys, h3, h4⟩ := h.2.sq
    refine ⟨xs, ys, h1, h3, ?_⟩
    rw [zipD_len, h2.length, h4.length]
    omega
theorem wk_zipT (a b : Addr) (ds es : List D) : Wk K mg (ItzT K a b) (zipD ds es) (fun O M H => GT K mg a ds O M H ∧ GT K mg b es O M H) where
  keep := fun O M H O' M' H' h st k m => ⟨(wk_tup a ds).keep _ _ _ _ _ _ h.1 st k m, (wk_tup b es).keep _ _ _ _ _ _ h.2 st k m⟩
  go := fun O M H i h hi => by
    obtain ⟨xs, h1, h2⟩ := h.1
    obtain ⟨ys, h3, h4⟩ := h.2
    rw [zipD_len] at hi
    have hx : i < xs.length := by rw [h2.length]; omega
    have hy : i < ys.length := by rw [h4.length]; omega
    exact ⟨xs, ys, xs[i], ys[i], h1, h3, List.getElem?_eq_getElem hx, List.getElem?_eq_getElem hy⟩
  yld := fun O M H i d v H' h e y => by
    obtain ⟨xs, h1, h2⟩ := h.1
    obtain ⟨ys, h3, h4⟩ := h.2
    obtain ⟨T, x, x', rfl, hT, rfl, y1, y2⟩ := y
    obtain ⟨d1, d2, e1, e2, rfl⟩ := zipD_get e
    obtain ⟨u, e3, r⟩ := h2.get e1
    obtain ⟨u', e4, r'⟩ := h4.get e2
    have e5 := y1 xs h1
    have e6 := y2 ys h3
    rw [e3] at e5; cases e5
    rw [e4] at e6; cases e6
    exact rep_new hT (.cons r (.cons r' .nil))
  stop := fun O M H h => by
    obtain ⟨xs, h1, h2⟩ := h.1
    obtain ⟨ys, h3, h4⟩ := h.2
    refine ⟨xs, ys, h1, h3, ?_⟩
    rw [zipD_len, h2.length, h4.length]
    omega
/-- a shared list or tuple, walked -/
theorem rep_seq {Γ : Fm} {τ : Stt} {σ : L2.St} {H : Hp} {v : V} {d : D} {ds : List D} (ok : SOk K mg Γ τ σ H) (rp : Rep K mg (Γ.O τ σ) H v d) (e : itemsOf d = some ds) :
    ∃ a, v = .ref a ∧ ((d = .lst ds ∧ (∃ xs, SqL K H a xs) ∧ GL K mg a ds (Γ.O τ σ) (mutS τ σ) H) ∨ (d = .tup ds ∧ (∃ xs, SqT K H a xs) ∧ GT K mg a ds (Γ.O τ σ) (mutS τ σ) H)) := by
  cases rp with
  | tup h r => cases e; exact ⟨_, rfl, .inr ⟨rfl, ⟨_, h⟩, _, h, r⟩⟩
  | lst n h r => cases e; exact ⟨_, rfl, .inl ⟨rfl, ⟨_, .inl h⟩, _, .inl ⟨h, fun z => n (ok.mut_lst z).2⟩, r⟩⟩
  | lstW h1 h2 h3 h4 h5 h6 r => cases e; exact ⟨_, rfl, .inl ⟨rfl, ⟨_, .inr ⟨_, _, _, h1, h2, h3, h4, h5, h6⟩⟩, _, .inr ⟨_, _, _, h1, h2, h3, h4, h5, h6⟩, r⟩⟩
  | _ => cases e
end

/-! ### locks -/
section
variable {K : PySem.W.Frag} {mg : Str → Option Value} {Γ : Fm} {τ : Stt} {σ : L2.St} {H : Hp}
/-- a slot changes its sort, not its list -/
theorem SOk.resort {i : Nat} {s s' : Sl} (ok : SOk K mg Γ τ σ H) (e : τ[i]? = some s) (hh : held s → held s' → True) (hs : SlOk K mg Γ (Γ.O τ σ) H σ[i]? s') (h1 : held s' → held s)
    (hP : ∀ a, Γ.P i = some a → ∃ d l, s' = .lk d l) (ho : ∀ d, (s' = .ow d ∨ s' = .lk d false) → ∃ d', s = .ow d' ∨ s = .lk d' false) (hm : ∀ d, (s = .ow d ∨ s = .lk d false) → ∃ d', s' = .ow d' ∨ s' = .lk d' false) : SOk K mg Γ (τ.set i s') σ H ∧ (∀ a, ownS (τ.set i s') σ a ↔ ownS τ σ a) := by
  have own1 : ∀ a, ownS (τ.set i s') σ a → ownS τ σ a := fun a ⟨j, d, h, e2⟩ => by
    have h' : ∃ t, (t = Sl.ow d ∨ t = Sl.lk d false) ∧ (τ.set i s')[j]? = some t := h.elim (fun h => ⟨_, .inl rfl, h⟩) fun h => ⟨_, .inr rfl, h⟩
    obtain ⟨t, ht, h'⟩ := h'
    rcases get_set2 h' with ⟨rfl, rfl⟩ | ⟨_, e3⟩
    · obtain ⟨d', q⟩ := ho d ht
      exact ⟨j, d', q.elim (fun q => .inl (q ▸ e)) (fun q => .inr (q ▸ e)), e2⟩
    · exact ⟨j, d, ht.elim (fun q => .inl (q ▸ e3)) (fun q => .inr (q ▸ e3)), e2⟩
  have hlt : i < τ.length := (List.getElem?_eq_some_iff.mp e).1
  have own2 : ∀ a, ownS τ σ a → ownS (τ.set i s') σ a := fun a ⟨j, d, h, e2⟩ => by
    have h' : ∃ t, (t = Sl.ow d ∨ t = Sl.lk d false) ∧ τ[j]? = some t := h.elim (fun h => ⟨_, .inl rfl, h⟩) fun h => ⟨_, .inr rfl, h⟩
    obtain ⟨t, ht, h'⟩ := h'
    by_cases hj : j = i
    · subst hj
      rw [e] at h'; cases h'
      obtain ⟨d', q⟩ := hm d ht
      have e3 : (τ.set j s')[j]? = some s' := List.getElem?_set_self hlt
      exact ⟨j, d', q.elim (fun q => .inl (q ▸ e3)) (fun q => .inr (q ▸ e3)), e2⟩
    · have e3 : (τ.set i s')[j]? = some t := by rw [List.getElem?_set_ne (Ne.symm hj)]; exact h'
      exact ⟨j, d, ht.elim (fun q => .inl (q ▸ e3)) (fun q => .inr (q ▸ e3)), e2⟩
  have hO : Γ.O (τ.set i s') σ = Γ.O τ σ := funext fun a => propext ⟨fun h => h.elim .inl fun z => .inr (own1 a z), fun h => h.elim .inl fun z => .inr (own2 a z)⟩
  have hb : ∀ j t, (τ.set i s')[j]? = some t → held t → ∃ u, τ[j]? = some u ∧ held u := fun j t e2 h => by
    rcases get_set2 e2 with ⟨rfl, rfl⟩ | ⟨_, e3⟩
    · exact ⟨s, e, h1 h⟩
    · exact ⟨t, e3, h⟩
  refine ⟨⟨by rw [List.length_set]; exact ok.len, fun j t e2 => ?_, fun j k t u p e1 g1 e2 g2 e3 e4 => ?_, ok.fr, ok.bt, ok.lb, fun j t p e1 g1 e2 => ?_, fun j a e1 => ?_⟩, fun a => ⟨own1 a, own2 a⟩⟩
  · rw [hO]
    rcases get_set2 e2 with ⟨rfl, rfl⟩ | ⟨_, e3⟩
    · exact hs
    · exact ok.sl j t e3
  · obtain ⟨t', q1, q2⟩ := hb j t e1 g1
    obtain ⟨u', q3, q4⟩ := hb k u e2 g2
    exact ok.dist j k t' u' p q1 q2 q3 q4 e3 e4
  · obtain ⟨t', q1, q2⟩ := hb j t e1 g1
    exact ok.la j t' p q1 q2 e2
  · obtain ⟨g1, d', l, g2⟩ := ok.pn j a e1
    refine ⟨g1, ?_⟩
    by_cases hj : i = j
    · subst hj
      obtain ⟨d2, l2, z⟩ := hP a e1
      exact ⟨d2, l2, by rw [List.getElem?_set_self hlt, z]⟩
    · exact ⟨d', l, by rw [List.getElem?_set_ne hj]; exact g2⟩
/-- locked: walked, not changed -/
theorem SOk.lock {i : Nat} {ds : List D} (ok : SOk K mg Γ τ σ H) (e : τ[i]? = some (.ow (.lst ds)) ∨ τ[i]? = some (.ln (.lst ds))) :
    ∃ l, (τ[i]? = some (.ow (.lst ds)) → l = false) ∧ (τ[i]? = some (.ln (.lst ds)) → l = true) ∧ Step σ τ H σ (τ.set i (.lk (.lst ds) l)) H ∧ SOk K mg Γ (τ.set i (.lk (.lst ds) l)) σ H ∧ ∃ p, σ[i]? = some (some (.ref p)) ∧ GL K mg p ds (Γ.O (τ.set i (.lk (.lst ds) l)) σ) (mutS (τ.set i (.lk (.lst ds) l)) σ) H := by
  have main : ∀ s l, τ[i]? = some s → held s → (s = .ow (.lst ds) ∧ l = false ∨ s = .ln (.lst ds) ∧ l = true) → Step σ τ H σ (τ.set i (.lk (.lst ds) l)) H ∧ SOk K mg Γ (τ.set i (.lk (.lst ds) l)) σ H ∧ ∃ p, σ[i]? = some (some (.ref p)) ∧ GL K mg p ds (Γ.O (τ.set i (.lk (.lst ds) l)) σ) (mutS (τ.set i (.lk (.lst ds) l)) σ) H := by
    intro s l e hh hs
    have q := ok.sl i s e
    obtain ⟨p, ep, hq, c⟩ : ∃ p, σ[i]? = some (some (.ref p)) ∧ ((l = false ∧ Γ.H0 p = none ∧ ¬ Γ.B p) ∨ (l = true ∧ Γ.L p ∧ Γ.B p)) ∧ OwnC K mg (Γ.O τ σ) H p (.lst ds) := by
      rcases hs with ⟨rfl, rfl⟩ | ⟨rfl, rfl⟩
      · obtain ⟨p, e1, h, c⟩ := q; exact ⟨p, e1, .inl ⟨rfl, h⟩, c⟩
      · obtain ⟨p, e1, h, c⟩ := q; exact ⟨p, e1, .inr ⟨rfl, h⟩, c⟩
    obtain ⟨ok2, ow⟩ := ok.resort (s' := .lk (.lst ds) l) e (fun _ _ => trivial) ⟨p, ep, hq, c⟩ (fun _ => hh) (fun _ _ => ⟨_, _, rfl⟩) (fun d z => by
      rcases hs with ⟨rfl, rfl⟩ | ⟨rfl, rfl⟩
      · exact ⟨_, .inl rfl⟩
      · rcases z with z | z <;> cases z) (fun d z => by
      rcases hs with ⟨rfl, rfl⟩ | ⟨rfl, rfl⟩
      · exact ⟨_, .inr rfl⟩
      · rcases z with z | z <;> cases z)
    have mt : ∀ a, mutS (τ.set i (.lk (.lst ds) l)) σ a → mutS τ σ a ∧ a ≠ p := fun a ⟨j, d, h, e2⟩ => by
      have h' : ∃ t, (t = Sl.ow d ∨ t = Sl.ln d) ∧ (τ.set i (.lk (.lst ds) l))[j]? = some t := h.elim (fun h => ⟨_, .inl rfl, h⟩) fun h => ⟨_, .inr rfl, h⟩
      obtain ⟨t, ht, h'⟩ := h'
      rcases get_set2 h' with ⟨_, rfl⟩ | ⟨nj, e3⟩
      · rcases ht with z | z <;> cases z
      · refine ⟨⟨j, d, ht.elim (fun q => .inl (q ▸ e3)) (fun q => .inr (q ▸ e3)), e2⟩, fun z => nj ?_⟩
        subst z
        exact ok.dist j i t s _ e3 (by rcases ht with rfl | rfl <;> trivial) e hh e2 ep
    have hO : ∀ a, Γ.O (τ.set i (.lk (.lst ds) l)) σ a → Γ.O τ σ a := fun a h => h.elim .inl fun z => .inr ((ow a).mp z)
    obtain ⟨xs, ds', ed, eH, ra⟩ := c
    cases ed
    exact ⟨⟨fun a _ z _ => (ow a).mp z, fun a _ z _ => (mt a z).1, fun _ _ h _ => h, fun _ x h => ⟨x, h⟩⟩, ok2, p, ep, xs, .inl ⟨.inl eH, fun z => (mt p z).2 rfl⟩, ra.weak hO⟩
  rcases e with e | e
  · exact ⟨false, fun _ => rfl, fun z => absurd z (by rw [e]; simp), main _ _ e trivial (.inl ⟨rfl, rfl⟩)⟩
  · exact ⟨true, fun z => absurd z (by rw [e]; simp), fun _ => rfl, main _ _ e trivial (.inr ⟨rfl, rfl⟩)⟩
/-- .. and unlocked -/
theorem SOk.unlock {i : Nat} {d : D} {l : Bool} (ok : SOk K mg Γ τ σ H) (e : τ[i]? = some (.lk d l)) (hP : Γ.P i = none) : SOk K mg Γ (τ.set i (if l then .ln d else .ow d)) σ H ∧ (∀ a, ownS (τ.set i (if l then .ln d else .ow d)) σ a ↔ ownS τ σ a) := by
  obtain ⟨p, ep, hq, c⟩ := ok.sl i _ e
  cases l with
  | false =>
    rcases hq with ⟨_, hq⟩ | ⟨z, _⟩
    · exact ok.resort (s' := .ow d) e (fun _ _ => trivial) ⟨p, ep, hq, c⟩ (fun _ => trivial) (fun a z => by rw [hP] at z; cases z) (fun d' z => ⟨d, .inr rfl⟩) (fun d' z => ⟨d, .inl rfl⟩)
    · cases z
  | true =>
    rcases hq with ⟨z, _⟩ | ⟨_, hq⟩
    · cases z
    · exact ok.resort (s' := .ln d) e (fun _ _ => trivial) ⟨p, ep, hq, c⟩ (fun _ => trivial) (fun a z => by rw [hP] at z; cases z) (fun d' z => by rcases z with z | z <;> cases z) (fun d' z => by rcases z with z | z <;> cases z)
end

/-! ### the rules of what is walked -/
section
variable {X : Cx} {tg e e2 : Expr} {es : List Expr} {pos p tpos : Pos} {F G : Ex} {i kk : Nat} {elts : List Expr}
theorem di_ex (h : DE X e F) : DI X tg e (.ex F) := fun Γ => piM (pi_seq (h Γ)) fun σ H W hq => by
  obtain ⟨τ, ok, hq⟩ := hq
  refine ⟨τ, ok, ?_⟩
  simp only [It.run] at hq
  cases e1 : F τ with
  | bad => simp only [e1] at hq; exact hq
  | ex e' τ' => simp only [e1] at hq; exact hq
  | ok r τ1 =>
    simp only [e1, R.bind] at hq
    intro v H1 ps
    obtain ⟨s, ok1, rp⟩ := ps.frz ok
    cases e2 : itemsOf r.d with
    | none => simp only [e2] at hq
    | some ds =>
      simp only [e2] at hq
      obtain ⟨a, rfl, h⟩ := rep_seq ok1 rp e2
      refine ⟨a, rfl, ?_⟩
      rcases h with ⟨_, hx, g⟩ | ⟨_, hx, g⟩
      · exact .inl ⟨hx, hq _ _ H1 s ok1 (wk_list a ds) g⟩
      · exact .inr ⟨hx, hq _ _ H1 s ok1 (wk_tup a ds) g⟩
theorem di_sl (h : PE X e (tVar i)) : DI X tg e (.sl i) := fun Γ => piM (pi_seq h) fun σ H W hq => by
  obtain ⟨τ, ok, hq⟩ := hq
  simp only [It.run] at hq
  cases e1 : τ[i]? with
  | none => simp only [e1] at hq
  | some s =>
    have lock : ∀ ds, (τ[i]? = some (.ow (.lst ds)) ∨ τ[i]? = some (.ln (.lst ds))) → (∀ l, (τ[i]? = some (.ow (.lst ds)) → l = false) → (τ[i]? = some (.ln (.lst ds)) → l = true) → ∀ J G H', Step σ τ H σ (τ.set i (.lk (.lst ds) l)) H' → SOk X.K X.mg Γ (τ.set i (.lk (.lst ds) l)) σ H' → Wk X.K X.mg J ds G → G (Γ.O (τ.set i (.lk (.lst ds) l)) σ) (mutS (τ.set i (.lk (.lst ds) l)) σ) H' → W J H') → iSeq X.K (tVar i) σ H W := fun ds e h => by
      obtain ⟨l, l1, l2, s1, ok1, p, ep, g⟩ := ok.lock e
      obtain ⟨xs, hx, _⟩ := g.sq
      exact ⟨_, ep, p, rfl, .inl ⟨⟨xs, hx⟩, h l l1 l2 _ _ H s1 ok1 (wk_list p ds) g⟩⟩
    cases s with
    | no => simp only [e1] at hq
    | fz d =>
      simp only [e1] at hq
      cases e2 : itemsOf d with
      | none => simp only [e2] at hq
      | some ds =>
        simp only [e2] at hq
        obtain ⟨v, ev, rp⟩ := ok.sl i _ e1
        obtain ⟨a, rfl, h⟩ := rep_seq ok rp e2
        refine ⟨_, ev, a, rfl, ?_⟩
        rcases h with ⟨_, hx, g⟩ | ⟨_, hx, g⟩
        · exact .inl ⟨hx, hq _ _ H .refl ok (wk_list a ds) g⟩
        · exact .inr ⟨hx, hq _ _ H .refl ok (wk_tup a ds) g⟩
    | ow d =>
      cases d with
      | lst ds => simp only [e1] at hq; exact lock ds (.inl e1) fun l l1 l2 => by rw [l1 e1]; exact hq
      | _ => simp only [e1] at hq
    | ln d =>
      cases d with
      | lst ds => simp only [e1] at hq; exact lock ds (.inr e1) fun l l1 l2 => by rw [l2 e1]; exact hq
      | _ => simp only [e1] at hq
    | lk d l =>
      cases d with
      | lst ds =>
        simp only [e1] at hq
        obtain ⟨p, ep, _, xs, ds', ed, eH, ra⟩ := ok.sl i _ e1
        cases ed
        have nm : ¬ mutS τ σ p := fun ⟨j, d, h, ej⟩ => by
          have h' : ∃ t, (t = Sl.ow d ∨ t = Sl.ln d) ∧ τ[j]? = some t := h.elim (fun h => ⟨_, .inl rfl, h⟩) fun h => ⟨_, .inr rfl, h⟩
          obtain ⟨t, ht, h'⟩ := h'
          have := ok.dist j i t _ p h' (by rcases ht with rfl | rfl <;> trivial) e1 trivial ej ep
          subst this
          rw [e1] at h'; cases h'
          rcases ht with ht | ht <;> cases ht
        exact ⟨_, ep, p, rfl, .inl ⟨⟨xs, .inl (.inl eH)⟩, hq _ _ H .refl ok (wk_list p ds) ⟨xs, .inl ⟨.inl eH, nm⟩, ra⟩⟩⟩
      | _ => simp only [e1] at hq
/-- the arguments of a call that makes an iterator -/
theorem args_one {K : PySem.W.Frag} {mg : Str → Option Value} {Γ : Fm} {σ : L2.St} {H : Hp} {R : List V → Hp → Prop} {P : RV → Stt → Prop} (h : ∃ τ, SOk K mg Γ τ σ H ∧ match F τ with
      | .ok r τ' => ∀ v H', Step σ τ H σ τ' H' → SOk K mg Γ τ' σ H' → Rep K mg (Γ.O τ' σ) H' v r.d → R [v] H'
      | .ex e τ' => Γ.xw e τ'
      | .bad => False) : rdA K mg Γ [.v F] σ H R := by
  obtain ⟨τ, ok, h⟩ := h
  refine dsOf_rdA (Fs := [F]) ok ?_
  simp only [dsOf]
  cases e : F τ with
  | bad => rw [e] at h; exact h
  | ex e' τ' => rw [e] at h; exact h
  | ok r τ' =>
    rw [e] at h
    intro vs H' s ok' ra
    cases ra with
    | cons r1 r2 => cases r2; exact h _ H' s ok' r1
theorem di_rng (hg : Gl X "range") (hm : X.mg "range" = none) (ha : DA X [e] [.v F]) (hs : starEach [e] X.env = [(false, eval e X.env)] := by rfl) : DI X tg (.Call (.Name "range" p) [e] [] pos) (.rng F) := fun Γ => piM (pi_range1 hg hm (ha Γ) hs) fun σ H W hq => by
  obtain ⟨τ, ok, hq⟩ := hq
  refine args_one (P := fun _ _ => True) ⟨τ, ok, ?_⟩
  simp only [It.run] at hq
  cases e1 : F τ with
  | bad => simp only [e1] at hq; exact hq
  | ex e' τ' => simp only [e1] at hq; exact hq
  | ok r τ1 =>
    simp only [e1, R.bind] at hq
    intro v H1 s ok1 rp
    cases e2 : r.d with
    | int b =>
      rw [e2] at rp
      cases rp
      simp only [e2] at hq
      by_cases hb : small b = true
      · simp only [hb, if_true] at hq
        have hb' : -(2 ^ 62) ≤ b ∧ b < 2 ^ 62 := by simpa [small] using hb
        have w := wk_rng (K := X.K) (mg := X.mg) 0 b
        have q := hq (Itr 0 (b - 0).toNat) (fun _ _ _ => True) H1 s ok1 w trivial
        rw [Int.sub_zero] at q
        exact ⟨b, rfl, hb'.1, hb'.2, q⟩
      · simp only [hb] at hq; exact False.elim hq
    | _ => simp only [e2] at hq
theorem di_rng2 (hg : Gl X "range") (hm : X.mg "range" = none) (ha : DA X [e, e2] [.v F, .v G]) (hs : starEach [e, e2] X.env = [(false, eval e X.env), (false, eval e2 X.env)] := by rfl) (hs2 : starEach [e2] X.env = [(false, eval e2 X.env)] := by rfl) :
    DI X tg (.Call (.Name "range" p) [e, e2] [] pos) (.rng2 F G) := fun Γ => piM (pi_range2 hg hm (ha Γ) hs hs2) fun σ H W hq => by
  obtain ⟨τ, ok, hq⟩ := hq
  refine dsOf_rdA (Fs := [F, G]) ok ?_
  simp only [It.run] at hq
  simp only [dsOf]
  cases e1 : F τ with
  | bad => simp only [e1] at hq; exact hq
  | ex e' τ' => simp only [e1] at hq; exact hq
  | ok r τ1 =>
    simp only [e1, R.bind] at hq ⊢
    cases e3 : G τ1 with
    | bad => simp only [e3] at hq
    | ex e' τ' => simp only [e3] at hq; exact hq
    | ok r' τ2 =>
      simp only [e3] at hq ⊢
      intro vs H1 s ok1 ra
      cases ra with
      | cons rp r2 =>
        cases r2 with
        | cons rp' r3 =>
          cases r3
          cases e2 : r.d with
          | int a =>
            cases e4 : r'.d with
            | int b =>
              rw [e2] at rp
              rw [e4] at rp'
              cases rp
              cases rp'
              simp only [e2, e4] at hq
              by_cases hb : (small a && small b) = true
              · simp only [hb, if_true] at hq
                have hb' : (-(2 ^ 62) ≤ a ∧ a < 2 ^ 62) ∧ -(2 ^ 62) ≤ b ∧ b < 2 ^ 62 := by simpa [small] using hb
                exact ⟨a, b, rfl, ⟨hb'.1.1, hb'.1.2, hb'.2.1, hb'.2.2⟩, hq _ _ H1 s ok1 (wk_rng a b) trivial⟩
              · simp only [hb] at hq; exact hq.elim
            | _ => simp only [e2, e4] at hq
          | _ => simp only [e2] at hq
theorem di_enum (hg : Gl X "enumerate") (hm : X.mg "enumerate" = none) (ha : DA X [e] [.v F]) (hs : starEach [e] X.env = [(false, eval e X.env)] := by rfl) : DI X (.Tuple elts kk tpos) (.Call (.Name "enumerate" p) [e] [] pos) (.enum F) := fun Γ => piM (pi_enum hg hm (ha Γ) hs) fun σ H W hq => by
  obtain ⟨τ, ok, hq⟩ := hq
  refine args_one (P := fun _ _ => True) ⟨τ, ok, ?_⟩
  simp only [It.run] at hq
  cases e1 : F τ with
  | bad => simp only [e1] at hq; exact hq
  | ex e' τ' => simp only [e1] at hq; exact hq
  | ok r τ1 =>
    simp only [e1, R.bind] at hq
    intro v H1 s ok1 rp
    cases e2 : r.d with
    | lst ds =>
      rw [e2] at rp
      simp only [e2] at hq
      obtain ⟨a, rfl, h⟩ := rep_seq ok1 rp rfl
      rcases h with ⟨_, ⟨xs, hx⟩, g⟩ | ⟨z, _⟩
      · exact ⟨a, xs, rfl, hx, hq _ _ H1 s ok1 (wk_enum a ds) g⟩
      · cases z
    | _ => simp only [e2] at hq
theorem di_zip (hg : Gl X "zip") (hm : X.mg "zip" = none) (ha : DA X [e, e2] [.v F, .v G]) (hs : starEach [e, e2] X.env = (false, eval e X.env) :: starEach [e2] X.env := by rfl) (hpl : (backTo pos (starEach [e2] X.env)).any (·.1) = false := by rfl) :
    DI X (.Tuple elts kk tpos) (.Call (.Name "zip" p) [e, e2] [] pos) (.zip F G) := fun Γ => piM (pi_zipA hg hm (ha Γ) hs hpl) fun σ H W hq => by
  obtain ⟨τ, ok, hq⟩ := hq
  refine dsOf_rdA (Fs := [F, G]) ok ?_
  simp only [It.run] at hq
  simp only [dsOf]
  cases e1 : F τ with
  | bad => simp only [e1] at hq; exact hq
  | ex e' τ' => simp only [e1] at hq; exact hq
  | ok r τ1 =>
    simp only [e1, R.bind] at hq ⊢
    cases e3 : G τ1 with
    | bad => simp only [e3] at hq
    | ex e' τ' => simp only [e3] at hq; exact hq
    | ok r' τ2 =>
      simp only [e3] at hq ⊢
      intro vs H1 s ok1 ra
      cases ra with
      | cons rp r2 =>
        cases r2 with
        | cons rp' r3 =>
          cases r3
          cases e2 : r.d with
          | lst ds =>
            cases e4 : r'.d with
            | lst es =>
              rw [e2] at rp
              rw [e4] at rp'
              simp only [e2, e4] at hq
              obtain ⟨a, rfl, h⟩ := rep_seq ok1 rp rfl
              obtain ⟨b, rfl, h'⟩ := rep_seq ok1 rp' rfl
              rcases h with ⟨_, ⟨xs, hx⟩, g⟩ | ⟨z, _⟩
              · rcases h' with ⟨_, ⟨ys, hy⟩, g'⟩ | ⟨z, _⟩
                · exact ⟨a, b, xs, ys, rfl, .inl ⟨hx, hy, hq _ _ H1 s ok1 (wk_zip a b ds es) ⟨g, g'⟩⟩⟩
                · cases z
              · cases z
            | _ => simp only [e2, e4] at hq
          | tup ds =>
            cases e4 : r'.d with
            | tup es =>
              rw [e2] at rp
              rw [e4] at rp'
              simp only [e2, e4] at hq
              obtain ⟨a, rfl, h⟩ := rep_seq ok1 rp rfl
              obtain ⟨b, rfl, h'⟩ := rep_seq ok1 rp' rfl
              rcases h with ⟨z, _⟩ | ⟨_, ⟨xs, hx⟩, g⟩
              · cases z
              · rcases h' with ⟨z, _⟩ | ⟨_, ⟨ys, hy⟩, g'⟩
                · cases z
                · exact ⟨a, b, xs, ys, rfl, .inr ⟨hx, hy, hq _ _ H1 s ok1 (wk_zipT a b ds es) ⟨g, g'⟩⟩⟩
            | _ => simp only [e2, e4] at hq
          | _ => simp only [e2] at hq
end

/-! ### the lock is taken off -/
def Fm.pin (Γ : Fm) (i : Nat) (p : Addr) : Fm := { Γ with P := fun j => if j = i then some p else Γ.P j }
section
variable {K : PySem.W.Frag} {mg : Str → Option Value} {Γ : Fm} {τ0 τ τ1 : Stt} {σ0 σ : L2.St} {H0 H H1 : Hp}
theorem SOk.pin {i : Nat} {p : Addr} {d : D} {l : Bool} (ok : SOk K mg Γ τ σ H) (e : τ[i]? = some (.lk d l)) (ep : σ[i]? = some (some (.ref p))) : SOk K mg (Γ.pin i p) τ σ H :=
  ⟨ok.len, ok.sl, ok.dist, ok.fr, ok.bt, ok.lb, ok.la, fun j a h => by
    by_cases hj : j = i
    · subst hj
      have h' : (if j = j then some p else Γ.P j) = some a := h
      rw [if_pos rfl] at h'
      cases h'
      exact ⟨ep, d, l, e⟩
    · have h' : (if j = i then some p else Γ.P j) = some a := h
      rw [if_neg hj] at h'
      exact ok.pn j a h'⟩
theorem SOk.unpin {i : Nat} {p : Addr} (ok : SOk K mg (Γ.pin i p) τ σ H) (hP : Γ.P i = none) : SOk K mg Γ τ σ H :=
  ⟨ok.len, ok.sl, ok.dist, ok.fr, ok.bt, ok.lb, ok.la, fun j a h => ok.pn j a (by
    show (if j = i then some p else Γ.P j) = some a
    by_cases hj : j = i
    · subst hj; rw [hP] at h; cases h
    · rw [if_neg hj]; exact h)⟩
/-- the frame in which the walk's turns are done -/
inductive Pinned (Γ : Fm) : It → Stt → L2.St → Fm → Prop
  | sl {i : Nat} {τ0 : Stt} {σ0 : L2.St} {p : Addr} : (∃ d, τ0[i]? = some (.ow d) ∨ τ0[i]? = some (.ln d)) → σ0[i]? = some (some (.ref p)) → Γ.P i = none → Pinned Γ (.sl i) τ0 σ0 (Γ.pin i p)
  | no {it : It} {τ0 : Stt} {σ0 : L2.St} : (∀ τ, it.off τ0 τ = τ) → Pinned Γ it τ0 σ0 Γ
theorem Pinned.B {it : It} {Γ' : Fm} (h : Pinned Γ it τ0 σ0 Γ') : Γ'.O = Γ.O ∧ Γ'.xw = Γ.xw ∧ Γ'.B = Γ.B ∧ Γ'.H0 = Γ.H0 := by cases h <;> exact ⟨rfl, rfl, rfl, rfl⟩
theorem pinned_of {it : It} {ds : List D} (ok0 : SOk K mg Γ τ0 σ0 H0) (hrun : it.run τ0 = .ok ds τ1) : ∃ Γ', Pinned Γ it τ0 σ0 Γ' ∧ ∀ {Γ2 : Fm} {H1 : Hp}, True → SOk K mg Γ τ1 σ0 H1 → SOk K mg Γ' τ1 σ0 H1 := by
  cases it with
  | sl i =>
    simp only [It.run] at hrun
    cases e : τ0[i]? with
    | none => simp only [e] at hrun; cases hrun
    | some s =>
      have hl : i < τ0.length := (List.getElem?_eq_some_iff.mp e).1
      have go : ∀ d l, (s = .ow d ∨ s = .ln d) → τ1 = τ0.set i (.lk d l) → ∃ Γ', Pinned Γ (.sl i) τ0 σ0 Γ' ∧ ∀ {Γ2 : Fm} {H1 : Hp}, True → SOk K mg Γ τ1 σ0 H1 → SOk K mg Γ' τ1 σ0 H1 := fun d l hs e1 => by
        obtain ⟨p, ep⟩ : ∃ p, σ0[i]? = some (some (.ref p)) := by
          rcases hs with rfl | rfl
          · obtain ⟨p, ep, _⟩ := ok0.sl i _ e; exact ⟨p, ep⟩
          · obtain ⟨p, ep, _⟩ := ok0.sl i _ e; exact ⟨p, ep⟩
        have hP : Γ.P i = none := by
          cases q : Γ.P i with
          | none => rfl
          | some a =>
            obtain ⟨_, d', l', z⟩ := ok0.pn i a q
            rw [e] at z; cases z
            rcases hs with hs | hs <;> cases hs
        refine ⟨_, .sl ⟨d, hs.elim (fun z => .inl (z ▸ e)) (fun z => .inr (z ▸ e))⟩ ep hP, fun _ ok1 => ok1.pin (d := d) (l := l) ?_ ep⟩
        rw [e1, List.getElem?_set_self hl]
      have no : (∀ τ, (It.sl i).off τ0 τ = τ) → ∃ Γ', Pinned Γ (.sl i) τ0 σ0 Γ' ∧ ∀ {Γ2 : Fm} {H1 : Hp}, True → SOk K mg Γ τ1 σ0 H1 → SOk K mg Γ' τ1 σ0 H1 := fun h => ⟨_, .no h, fun _ ok1 => ok1⟩
      cases s with
      | no => simp only [e] at hrun; cases hrun
      | fz d => exact no fun τ => by simp only [It.off, e]
      | lk d l => exact no fun τ => by simp only [It.off, e]
      | ow d => cases d <;> simp only [e] at hrun <;> cases hrun; exact go _ false (.inl rfl) rfl
      | ln d => cases d <;> simp only [e] at hrun <;> cases hrun; exact go _ true (.inr rfl) rfl
  | _ => exact ⟨_, .no fun τ => rfl, fun _ ok1 => ok1⟩
/-- behind a walk from τ0 the state is τ: with the lock off -/
theorem off_sok {it : It} {Γ' : Fm} (hp : Pinned Γ it τ0 σ0 Γ') (ok : SOk K mg Γ' τ σ H) : SOk K mg Γ (it.off τ0 τ) σ H ∧ ∀ a, ownS (it.off τ0 τ) σ a ↔ ownS τ σ a := by
  cases hp with
  | no h => rw [h]; exact ⟨ok, fun a => Iff.rfl⟩
  | sl hs ep hP =>
    rename_i i p
    obtain ⟨ep', d, l, e⟩ := ok.pn i p (by show (if i = i then some p else Γ.P i) = some p; rw [if_pos rfl])
    have ok1 := ok.unpin hP
    obtain ⟨d0, hs⟩ := hs
    have go := ok1.unlock e hP
    simp only [It.off]
    rcases hs with hs | hs
    · cases l with
      | false => simp only [hs, e]; exact go
      | true => simp only [hs, e]; exact ⟨ok1, fun a => trivial⟩
    · cases l with
      | false => simp only [hs, e]; exact ⟨ok1, fun a => trivial⟩
      | true => simp only [hs, e]; exact go
theorem off_step {it : It} {Γ' : Fm} (hp : Pinned Γ it τ0 σ0 Γ') (s : Step σ0 τ0 H0 σ τ H) (ok : SOk K mg Γ' τ σ H) : Step σ0 τ0 H0 σ (it.off τ0 τ) H := by
  have ow := (off_sok hp ok).2
  cases hp with
  | no h => rw [h]; exact s
  | sl hs ep hP =>
    rename_i i p
    obtain ⟨ep', d, l, e⟩ := ok.pn i p (by show (if i = i then some p else Γ.P i) = some p; rw [if_pos rfl])
    obtain ⟨d0, hs⟩ := hs
    have m0 : mutS τ0 σ0 p := ⟨i, d0, hs, ep⟩
    refine ⟨fun a x z e' => s.o a x ((ow a).mp z) e', fun a x z e' => ?_, s.k, s.t⟩
    have go : ∀ y, mutS (τ.set i y) σ a → mutS τ0 σ0 a := fun y ⟨j, d', h, ej⟩ => by
      have h' : ∃ t, (t = Sl.ow d' ∨ t = Sl.ln d') ∧ (τ.set i y)[j]? = some t := h.elim (fun h => ⟨_, .inl rfl, h⟩) fun h => ⟨_, .inr rfl, h⟩
      obtain ⟨t, ht, h'⟩ := h'
      rcases get_set2 h' with ⟨rfl, _⟩ | ⟨_, e3⟩
      · rw [ep'] at ej; cases ej
        exact m0
      · exact s.m a x ⟨j, d', ht.elim (fun q => .inl (q ▸ e3)) (fun q => .inr (q ▸ e3)), ej⟩ e'
    simp only [It.off] at z
    rcases hs with hs | hs
    · cases l with
      | false => simp only [hs, e] at z; exact go _ z
      | true => simp only [hs, e] at z; exact s.m a x z e'
    · cases l with
      | false => simp only [hs, e] at z; exact s.m a x z e'
      | true => simp only [hs, e] at z; exact go _ z
theorem off_postR {it : It} {Γ' : Fm} {r : RV} {v : V} (hp : Pinned Γ it τ0 σ0 Γ') (h : PostR K mg Γ' r τ σ v H) : PostR K mg Γ r (it.off τ0 τ) σ v H := by
  obtain ⟨d, fr⟩ := r
  cases fr with
  | false =>
    obtain ⟨ok, rp⟩ := h
    obtain ⟨ok2, ow⟩ := off_sok hp ok
    refine ⟨ok2, rp.weak fun a z => ?_⟩
    have e : Γ'.O = Γ.O := hp.B.1
    rw [e]
    exact z.elim .inl fun z => .inr ((ow a).mp z)
  | true =>
    obtain ⟨p, ev, h0, ok, xs, ds, e1, e2, ra⟩ := h
    have hp' : Pinned (Γ.add p) it τ0 σ0 (Γ'.add p) := by
      cases hp with
      | no h => exact .no h
      | sl h1 h2 h3 => exact .sl (Γ := Γ.add p) h1 h2 h3
    obtain ⟨ok2, ow⟩ := off_sok hp' ok
    have e : Γ'.B = Γ.B := hp.B.2.2.1
    have e0 : Γ'.H0 = Γ.H0 := hp.B.2.2.2
    refine ⟨p, ev, e0 ▸ h0, ok2, xs, ds, e1, e2, ra.weak fun a z => ?_⟩
    rcases z with z | z
    · exact .inl (by show Γ'.B a ∨ a = p; rw [e]; exact z)
    · exact .inr ((ow a).mp z)
end

/-! ### for -/
section
variable {X : Cx} {tg iter : Expr} {body : List Stmt} {pos : Pos} {it : It} {t : Tg} {f : Sm}
theorem ds_for (hp : PassesOwn (model X.prog X.w) X.A X.env X.xe) (hc : X.calm = true) (hi : DI X tg iter it) (hg : DG X tg t) (hb : DSs X body f)
    (hs : ∀ x, foldedSetIterable iter X.env x = pure x := by intro _; rfl) : DS X (.For tg iter body [] pos) (sFor it t f) := by
  intro Γ
  refine ⟨fun pins s σ H D I hq => ?_⟩
  obtain ⟨τ0, ok0, hq⟩ := hq
  unfold sFor at hq
  cases hrun : it.run τ0 with
  | bad => rw [hrun] at hq; exact hq.elim
  | ex e τ' =>
    rw [hrun] at hq
    exact (ps_for hp hc (hi Γ) (hg Γ) (hb Γ) hs).run pins s σ H D I ⟨τ0, ok0, by rw [hrun]; exact hq⟩
  | ok ds τ1 =>
    simp only [hrun, R.bind] at hq
    obtain ⟨Γ', hpn, hup⟩ := pinned_of ok0 hrun
    have eO : Γ'.O = Γ.O := hpn.B.1
    refine (ps_for hp hc (hi Γ) (hg Γ') (hb Γ') hs).run pins s σ H D I ⟨τ0, ok0, ?_⟩
    rw [hrun]
    intro J G H1 s1 ok1 wk g1
    -- what holds between two turns
    let W : Nat → Nat → L2.St → Hp → Prop := fun i m σ' H' => m = ds.length - i ∧ i ≤ ds.length ∧ ∃ τ, SOk X.K X.mg Γ' τ σ' H' ∧ G (Γ'.O τ σ') (mutS τ σ') H' ∧ Step σ τ0 H σ' τ H' ∧
      SFin X.K X.mg Γ τ0 σ H ((forLoop t f (ds.drop i) τ).bind fun fl τ2 => .ok fl (it.off τ0 τ2)) D
    refine ⟨W, ⟨ds.length, by simp, Nat.zero_le _, τ1, hup (Γ2 := Γ) trivial ok1, by rw [eO]; exact g1, s1, hq⟩, fun i m σ' H' hW => ?_⟩
    obtain ⟨rfl, hi', τ, ok, g, st, hr⟩ := hW
    by_cases hlt : i < ds.length
    · refine .inr ⟨wk.go _ _ _ i g hlt, W (i + 1) (ds.length - (i + 1)), fun σ2 H2 w => ⟨ds.length - (i + 1), by omega, w⟩, fun x H3 hy => ?_⟩
      have ed : ds[i]? = some ds[i] := List.getElem?_eq_getElem hlt
      obtain ⟨gr, rp⟩ := wk.yld _ _ _ i ds[i] x H3 g ed hy
      have edrop : ds.drop i = ds[i] :: ds.drop (i + 1) := List.drop_eq_getElem_cons hlt
      rw [edrop] at hr
      simp only [forLoop] at hr
      have sg : Step σ' τ H' σ' τ H3 := .grow gr
      refine ⟨τ, ds[i], ok.grow gr, rp, ?_⟩
      cases e1 : t.put ds[i] τ with
      | none => rw [e1] at hr; exact hr.elim
      | some τa =>
        simp only [e1] at hr
        intro σ2 H2 s2 ok2 _
        refine ⟨τa, ok2, ?_⟩
        cases e2 : f τa with
        | bad => rw [e2] at hr; exact hr.elim
        | ex e τ' => rw [e2] at hr; show Γ'.xw e τ'; rw [hpn.B.2.1]; exact hr
        | ok fl τ2 =>
          simp only [e2, R.bind] at hr
          have next : ∀ σ3 H4, Step σ2 τa H2 σ3 τ2 H4 → SOk X.K X.mg Γ' τ2 σ3 H4 → SFin X.K X.mg Γ τ0 σ H ((forLoop t f (ds.drop (i + 1)) τ2).bind fun fl τ2 => .ok fl (it.off τ0 τ2)) D → W (i + 1) (ds.length - (i + 1)) σ3 H4 := fun σ3 H4 s3 ok3 hr' => by
            have stp : Step σ' τ H' σ3 τ2 H4 := (sg.trans s2).trans s3
            exact ⟨rfl, hlt, τ2, ok3, wk.keep _ _ _ _ _ _ g (stp.stay ok) (fun a x e n => stp.k a x e n) (fun a x z e => stp.m a x z e), st.trans stp, hr'⟩
          cases fl with
          | nx => exact fun σ3 H4 s3 ok3 => next σ3 H4 s3 ok3 hr
          | ct => exact fun σ3 H4 s3 ok3 => next σ3 H4 s3 ok3 hr
          | bk =>
            intro σ3 H4 s3 ok3
            have stp : Step σ τ0 H σ3 τ2 H4 := ((st.trans sg).trans s2).trans s3
            exact hr σ3 H4 (off_step hpn stp ok3) (off_sok hpn ok3).1
          | rt r => exact fun v σ3 H4 pr => hr v σ3 H4 (off_postR hpn pr)
    · have e : i = ds.length := by omega
      subst e
      rw [List.drop_length] at hr
      exact .inl ⟨wk.stop _ _ _ g, hr σ' H' (off_step hpn st ok) (off_sok hpn ok).1⟩
end
end Wt
set_option autoImplicit false
set_option Elab.async false
set_option linter.all false
set_option maxRecDepth 100000
/-! Wt.Comp: list comprehensions. -/
namespace Wt
open PySem PySem.Spec PyProof.Rows L2

/-! ### the slots of a block's own names -/
theorem wipe_get (σ : L2.St) (j : Nat) : ∀ vs : List Nat, (wipe σ vs)[j]? = if j ∈ vs then (σ[j]?).map (fun _ => none) else σ[j]?
  | [] => by simp [wipe]
  | v :: vs => by
    unfold wipe
    by_cases hj : v = j
    · subst hj
      rw [if_pos List.mem_cons_self]
      by_cases hl : v < (wipe σ vs).length
      · rw [List.getElem?_set_self hl]
        rw [wipe_length] at hl
        rw [List.getElem?_eq_getElem hl]
        rfl
      · rw [List.getElem?_eq_none (by rw [List.length_set]; omega)]
        rw [wipe_length] at hl
        rw [List.getElem?_eq_none (by omega)]
        rfl
    · rw [List.getElem?_set_ne hj, wipe_get σ j vs]
      by_cases hm : j ∈ vs
      · rw [if_pos hm, if_pos (List.mem_cons_of_mem _ hm)]
      · rw [if_neg hm, if_neg (fun z => (List.mem_cons.mp z).elim (fun z => hj z.symm) hm)]
theorem wipeS_len (τ : Stt) : ∀ vs : List Nat, (wipeS τ vs).length = τ.length
  | [] => rfl
  | v :: vs => by unfold wipeS; rw [List.length_set, wipeS_len τ vs]
theorem wipeS_get (τ : Stt) (j : Nat) : ∀ vs : List Nat, (wipeS τ vs)[j]? = if j ∈ vs then (τ[j]?).map (fun _ => Sl.no) else τ[j]?
  | [] => by simp [wipeS]
  | v :: vs => by
    unfold wipeS
    by_cases hj : v = j
    · subst hj
      rw [if_pos List.mem_cons_self]
      by_cases hl : v < (wipeS τ vs).length
      · rw [List.getElem?_set_self hl]
        rw [wipeS_len] at hl
        rw [List.getElem?_eq_getElem hl]
        rfl
      · rw [List.getElem?_eq_none (by rw [List.length_set]; omega)]
        rw [wipeS_len] at hl
        rw [List.getElem?_eq_none (by omega)]
        rfl
    · rw [List.getElem?_set_ne hj, wipeS_get τ j vs]
      by_cases hm : j ∈ vs
      · rw [if_pos hm, if_pos (List.mem_cons_of_mem _ hm)]
      · rw [if_neg hm, if_neg (fun z => (List.mem_cons.mp z).elim (fun z => hj z.symm) hm)]
theorem unwipe_len (τ0 τ : Stt) : ∀ vs : List Nat, (unwipe τ0 τ vs).length = τ.length
  | [] => rfl
  | v :: vs => by
    unfold unwipe
    cases τ0[v]? with
    | none => exact unwipe_len τ0 τ vs
    | some x => simp only [List.length_set]; exact unwipe_len τ0 τ vs
theorem unwipe_get (τ0 τ : Stt) (hl : τ0.length = τ.length) (j : Nat) : ∀ vs : List Nat, (unwipe τ0 τ vs)[j]? = if j ∈ vs then τ0[j]? else τ[j]?
  | [] => by simp [unwipe]
  | v :: vs => by
    unfold unwipe
    by_cases hj : v = j
    · subst hj
      rw [if_pos List.mem_cons_self]
      cases e : τ0[v]? with
      | none =>
        simp only
        have := List.getElem?_eq_none_iff.mp e
        rw [List.getElem?_eq_none (by rw [unwipe_len]; omega)]
      | some x =>
        simp only
        have := (List.getElem?_eq_some_iff.mp e).1
        rw [List.getElem?_set_self (by rw [unwipe_len]; omega)]
    · have ih := unwipe_get τ0 τ hl j vs
      have hm : (j ∈ v :: vs) = (j ∈ vs) := propext ⟨fun z => (List.mem_cons.mp z).elim (fun z => absurd z.symm hj) id, List.mem_cons_of_mem _⟩
      simp only [hm]
      cases e : τ0[v]? with
      | none => exact ih
      | some x => simp only; rw [List.getElem?_set_ne hj]; exact ih
theorem clear_get (τ : Stt) : ∀ {vs : List Nat}, clear τ vs = true → ∀ j ∈ vs, τ[j]? = some .no ∨ ∃ d, τ[j]? = some (.fz d)
  | [], _, j, hj => by cases hj
  | v :: vs, h, j, hj => by
    simp only [clear, Bool.and_eq_true] at h
    rcases List.mem_cons.mp hj with rfl | hj
    · cases e : τ[j]? with
      | none => rw [e] at h; cases h.1
      | some s =>
        cases s with
        | no => exact .inl rfl
        | fz d => exact .inr ⟨d, rfl⟩
        | _ => rw [e] at h; cases h.1
    · exact clear_get τ h.2 j hj
section
variable {K : PySem.W.Frag} {mg : Str → Option Value} {Γ : Fm} {τ τ0 τ1 : Stt} {σ σ0 : L2.St} {H H0 H1 : Hp} {vs : List Nat}
/-- the block's own names forgotten -/
theorem SOk.wipe (ok : SOk K mg Γ τ σ H) (hP : ∀ j ∈ vs, Γ.P j = none) : SOk K mg Γ (wipeS τ vs) (L2.wipe σ vs) H ∧ (∀ a, ownS (wipeS τ vs) (L2.wipe σ vs) a → ownS τ σ a) ∧ (∀ a, mutS (wipeS τ vs) (L2.wipe σ vs) a → mutS τ σ a) := by
  have get : ∀ j s, (wipeS τ vs)[j]? = some s → s ≠ .no → j ∉ vs ∧ τ[j]? = some s := fun j s e hn => by
    rw [wipeS_get] at e
    by_cases hm : j ∈ vs
    · rw [if_pos hm] at e
      cases q : τ[j]? with
      | none => rw [q] at e; cases e
      | some x => rw [q] at e; cases e; exact absurd rfl hn
    · rw [if_neg hm] at e; exact ⟨hm, e⟩
  have gσ : ∀ j, j ∉ vs → (L2.wipe σ vs)[j]? = σ[j]? := fun j hj => by rw [wipe_get, if_neg hj]
  have ow : ∀ a, ownS (wipeS τ vs) (L2.wipe σ vs) a → ownS τ σ a := fun a ⟨j, d, h, e⟩ => by
    rcases h with h | h <;> obtain ⟨h1, h2⟩ := get j _ h (fun z => nomatch z)
    · exact ⟨j, d, .inl h2, by rw [← gσ j h1]; exact e⟩
    · exact ⟨j, d, .inr h2, by rw [← gσ j h1]; exact e⟩
  have mt : ∀ a, mutS (wipeS τ vs) (L2.wipe σ vs) a → mutS τ σ a := fun a ⟨j, d, h, e⟩ => by
    rcases h with h | h <;> obtain ⟨h1, h2⟩ := get j _ h (fun z => nomatch z)
    · exact ⟨j, d, .inl h2, by rw [← gσ j h1]; exact e⟩
    · exact ⟨j, d, .inr h2, by rw [← gσ j h1]; exact e⟩
  have hO : ∀ a, Γ.O (wipeS τ vs) (L2.wipe σ vs) a → Γ.O τ σ a := fun a h => h.elim .inl fun z => .inr (ow a z)
  have hC : ∀ {a d}, OwnC K mg (Γ.O τ σ) H a d → OwnC K mg (Γ.O (wipeS τ vs) (L2.wipe σ vs)) H a d := fun ⟨xs, ds, e1, e2, r⟩ => ⟨xs, ds, e1, e2, r.weak hO⟩
  have hh : ∀ s, held s → s ≠ .no := fun s h z => by subst z; exact h
  refine ⟨⟨by rw [wipeS_len, wipe_length]; exact ok.len, fun j s e => ?_, fun j k s t p e1 h1 e2 h2 e3 e4 => ?_, ok.fr, ok.bt, ok.lb, fun j s p e1 h1 e2 => ?_, fun j a e => ?_⟩, ow, mt⟩
  · cases s with
    | no => trivial
    | fz d => obtain ⟨h1, h2⟩ := get j _ e (fun z => nomatch z); rw [gσ j h1]; obtain ⟨v, e, r⟩ := ok.sl j _ h2; exact ⟨v, e, r.weak hO⟩
    | ow d => obtain ⟨h1, h2⟩ := get j _ e (fun z => nomatch z); rw [gσ j h1]; obtain ⟨a, e, h, c⟩ := ok.sl j _ h2; exact ⟨a, e, h, hC c⟩
    | ln d => obtain ⟨h1, h2⟩ := get j _ e (fun z => nomatch z); rw [gσ j h1]; obtain ⟨a, e, h, c⟩ := ok.sl j _ h2; exact ⟨a, e, h, hC c⟩
    | lk d l => obtain ⟨h1, h2⟩ := get j _ e (fun z => nomatch z); rw [gσ j h1]; obtain ⟨a, e, h, c⟩ := ok.sl j _ h2; exact ⟨a, e, h, hC c⟩
  · obtain ⟨g1, g2⟩ := get j s e1 (hh s h1)
    obtain ⟨g3, g4⟩ := get k t e2 (hh t h2)
    rw [gσ j g1] at e3
    rw [gσ k g3] at e4
    exact ok.dist j k s t p g2 h1 g4 h2 e3 e4
  · obtain ⟨g1, g2⟩ := get j s e1 (hh s h1)
    rw [gσ j g1] at e2
    exact ok.la j s p g2 h1 e2
  · obtain ⟨h1, d, l, h2⟩ := ok.pn j a e
    have hj : j ∉ vs := fun z => by rw [hP j z] at e; cases e
    exact ⟨by rw [gσ j hj]; exact h1, d, l, by rw [wipeS_get, if_neg hj]; exact h2⟩
/-- .. and there again -/
theorem SOk.unwipe (ok : SOk K mg Γ τ (L2.wipe σ vs) H) (hl : τ0.length = τ.length) (hv : ∀ j ∈ vs, τ0[j]? = some .no ∨ ∃ d v, τ0[j]? = some (.fz d) ∧ σ[j]? = some (some v) ∧ Rep K mg (Γ.O τ (L2.wipe σ vs)) H v d) :
    SOk K mg Γ (Wt.unwipe τ0 τ vs) σ H ∧ (∀ a, ownS (Wt.unwipe τ0 τ vs) σ a → ownS τ (L2.wipe σ vs) a) ∧ (∀ a, mutS (Wt.unwipe τ0 τ vs) σ a → mutS τ (L2.wipe σ vs) a) := by
  have get : ∀ j s, (Wt.unwipe τ0 τ vs)[j]? = some s → (j ∈ vs ∧ (s = .no ∨ ∃ d v, s = .fz d ∧ σ[j]? = some (some v) ∧ Rep K mg (Γ.O τ (L2.wipe σ vs)) H v d)) ∨ (j ∉ vs ∧ τ[j]? = some s) := fun j s e => by
    rw [unwipe_get τ0 τ hl] at e
    by_cases hm : j ∈ vs
    · rw [if_pos hm] at e
      rcases hv j hm with q | ⟨d, v, q1, q2⟩
      · rw [e] at q; cases q; exact .inl ⟨hm, .inl rfl⟩
      · rw [e] at q1; cases q1; exact .inl ⟨hm, .inr ⟨d, v, rfl, q2⟩⟩
    · rw [if_neg hm] at e; exact .inr ⟨hm, e⟩
  have gσ : ∀ j, j ∉ vs → (L2.wipe σ vs)[j]? = σ[j]? := fun j hj => by rw [wipe_get, if_neg hj]
  have geth : ∀ j s, (Wt.unwipe τ0 τ vs)[j]? = some s → held s → j ∉ vs ∧ τ[j]? = some s := fun j s e h => by
    rcases get j s e with ⟨_, rfl | ⟨d, v, rfl, _⟩⟩ | q
    · exact h.elim
    · exact h.elim
    · exact q
  have ow : ∀ a, ownS (Wt.unwipe τ0 τ vs) σ a → ownS τ (L2.wipe σ vs) a := fun a ⟨j, d, h, e⟩ => by
    rcases h with h | h <;> obtain ⟨h1, h2⟩ := geth j _ h trivial
    · exact ⟨j, d, .inl h2, by rw [gσ j h1]; exact e⟩
    · exact ⟨j, d, .inr h2, by rw [gσ j h1]; exact e⟩
  have mt : ∀ a, mutS (Wt.unwipe τ0 τ vs) σ a → mutS τ (L2.wipe σ vs) a := fun a ⟨j, d, h, e⟩ => by
    rcases h with h | h <;> obtain ⟨h1, h2⟩ := geth j _ h trivial
    · exact ⟨j, d, .inl h2, by rw [gσ j h1]; exact e⟩
    · exact ⟨j, d, .inr h2, by rw [gσ j h1]; exact e⟩
  have hO : ∀ a, Γ.O (Wt.unwipe τ0 τ vs) σ a → Γ.O τ (L2.wipe σ vs) a := fun a h => h.elim .inl fun z => .inr (ow a z)
  have hC : ∀ {a d}, OwnC K mg (Γ.O τ (L2.wipe σ vs)) H a d → OwnC K mg (Γ.O (Wt.unwipe τ0 τ vs) σ) H a d := fun ⟨xs, ds, e1, e2, r⟩ => ⟨xs, ds, e1, e2, r.weak hO⟩
  refine ⟨⟨by rw [unwipe_len, ok.len, wipe_length], fun j s e => ?_, fun j k s t p e1 h1 e2 h2 e3 e4 => ?_, ok.fr, ok.bt, ok.lb, fun j s p e1 h1 e2 => ?_, fun j a e => ?_⟩, ow, mt⟩
  · rcases get j s e with ⟨_, rfl | ⟨d, v, rfl, q1, q2⟩⟩ | ⟨h1, h2⟩
    · trivial
    · exact ⟨v, q1, q2.weak hO⟩
    · rw [← gσ j h1]
      have q := ok.sl j s h2
      cases s with
      | no => trivial
      | fz d => obtain ⟨v, e, r⟩ := q; exact ⟨v, e, r.weak hO⟩
      | ow d => obtain ⟨a, e, h, c⟩ := q; exact ⟨a, e, h, hC c⟩
      | ln d => obtain ⟨a, e, h, c⟩ := q; exact ⟨a, e, h, hC c⟩
      | lk d l => obtain ⟨a, e, h, c⟩ := q; exact ⟨a, e, h, hC c⟩
  · obtain ⟨g1, g2⟩ := geth j s e1 h1
    obtain ⟨g3, g4⟩ := geth k t e2 h2
    rw [← gσ j g1] at e3
    rw [← gσ k g3] at e4
    exact ok.dist j k s t p g2 h1 g4 h2 e3 e4
  · obtain ⟨g1, g2⟩ := geth j s e1 h1
    rw [← gσ j g1] at e2
    exact ok.la j s p g2 h1 e2
  · obtain ⟨h1, d, l, h2⟩ := ok.pn j a e
    have hj : j ∉ vs := fun z => by
      rw [wipe_get, if_pos z] at h1
      cases q : σ[j]? with
      | none => rw [q] at h1; cases h1
      | some x => rw [q] at h1; cases h1
    exact ⟨by rw [← gσ j hj]; exact h1, d, l, by rw [unwipe_get τ0 τ hl, if_neg hj]; exact h2⟩
/-- the list under way, at an address that is kept apart, grows -/
theorem SOk.atB {p : Addr} {xs ys : List V} (ok : SOk K mg Γ τ σ H) (hB : Γ.B p) (hL : ¬ Γ.L p) (h0 : Γ.H0 p = none) (hp : H p = some (.lst xs)) : SOk K mg Γ τ σ (upd H p (.lst ys)) := by
  have ne : ∀ a, a ≠ p → upd H p (.lst ys) a = H a := fun a h => upd_ne h
  have st : Stay (Γ.O τ σ) H (Γ.O τ σ) (upd H p (.lst ys)) := ⟨fun a x h _ => h, fun a x e h => by
    by_cases ha : a = p
    · subst ha
      rw [hp] at e; cases e
      exact h.elim (fun z => z.elim) fun z => absurd (.inl hB) z
    · rw [ne a ha]; exact e⟩
  have hC : ∀ {a d}, a ≠ p → OwnC K mg (Γ.O τ σ) H a d → OwnC K mg (Γ.O τ σ) (upd H p (.lst ys)) a d := fun h ⟨xs, ds, e1, e2, r⟩ => ⟨xs, ds, e1, by rw [ne _ h]; exact e2, r.stay st⟩
  refine ⟨ok.len, fun j s e => ?_, ok.dist, fun a o e n => ?_, fun a h => ?_, ok.lb, ok.la, ok.pn⟩
  · have q := ok.sl j s e
    cases s with
    | no => trivial
    | fz d => obtain ⟨v, e, r⟩ := q; exact ⟨v, e, r.stay st⟩
    | ow d => obtain ⟨a, e, ⟨h1, h2⟩, c⟩ := q; exact ⟨a, e, ⟨h1, h2⟩, hC (fun z => h2 (z ▸ hB)) c⟩
    | ln d => obtain ⟨a, e, ⟨h1, h2⟩, c⟩ := q; exact ⟨a, e, ⟨h1, h2⟩, hC (fun z => hL (z ▸ h1)) c⟩
    | lk d l =>
      obtain ⟨a, e, h, c⟩ := q
      refine ⟨a, e, h, hC (fun z => ?_) c⟩
      rcases h with ⟨_, _, h2⟩ | ⟨_, h1, _⟩
      · exact h2 (z ▸ hB)
      · exact hL (z ▸ h1)
  · have : a ≠ p := fun z => by subst z; rw [h0] at e; cases e
    rw [ne a this]; exact ok.fr a o e n
  · by_cases ha : a = p
    · exact ⟨_, by rw [ha]; exact upd_same⟩
    · rw [ne a ha]; exact ok.bt a h
end

mutual
theorem Tg.put_len : ∀ {t : Tg} {d : D} {τ τ' : Stt}, t.put d τ = some τ' → τ'.length = τ.length
  | .nm i, d, τ, τ', h => by
    simp only [Tg.put] at h
    cases e : τ[i]? with
    | none => rw [e] at h; cases h
    | some s => cases s <;> rw [e] at h <;> cases h <;> exact List.length_set ..
  | .tp ts, d, τ, τ', h => by
    cases d <;> simp only [Tg.put] at h <;> first | (cases h; done) | exact Tg.puts_len h
theorem Tg.puts_len : ∀ {ts : List Tg} {ds : List D} {τ τ' : Stt}, Tg.puts ts ds τ = some τ' → τ'.length = τ.length
  | [], [], τ, τ', h => by cases h; rfl
  | [], _ :: _, τ, τ', h => by cases h
  | _ :: _, [], τ, τ', h => by cases h
  | t :: ts, d :: ds, τ, τ', h => by
    simp only [Tg.puts] at h
    cases e : t.put d τ with
    | none => rw [e] at h; cases h
    | some τ1 => rw [e] at h; exact (Tg.puts_len h).trans (Tg.put_len e)
end
/-! ### the rule -/
def DTs (X : Cx) (ifs : List Expr) (f : Te) : Prop := ∀ Γ, PTs X ifs (rdT X.K X.mg Γ f)
section
variable {X : Cx} {c : Expr} {f : Te}
theorem dts_nil : DTs X [] (fun σ => .ok true σ) := fun Γ => ⟨fun pins s σ H Q I h => pts_nil.run pins s σ H Q I (rdT_ret h)⟩
theorem dts_one (h : DT X c f) : DTs X [c] f := fun Γ => pts_one (h Γ)
end
section
variable {X : Cx} {elt tg iter : Expr} {ifs : List Expr} {scope : Scope} {own : List (Str × Nat)} {pos : Pos} {it : It} {t : Tg} {tt : Te} {F : Ex}
/-- a step is anchored where the list under way was not yet -/
theorem Step.off_at {σ0 σ1 : L2.St} {τ0 τ1 : Stt} {H0 H1 : Hp} {p : Addr} {xs ys : List V} (s : Step σ0 τ0 H0 σ1 τ1 H1) (h0 : H0 p = none) (hp : H1 p = some (.lst xs)) : Step σ0 τ0 H0 σ1 τ1 (upd H1 p (.lst ys)) :=
  ⟨s.o, s.m, fun a x e n => by rw [upd_ne (fun z => by subst z; rw [h0] at e; cases e)]; exact s.k a x e n, fun a x e => by rw [upd_ne (fun z => by subst z; rw [h0] at e; cases e)]; exact s.t a x e⟩
theorem lc_read {K : PySem.W.Frag} {mg : Str → Option Value} {Γ : Fm} {σ : L2.St} {H : Hp} {Q : VK} {vs : List Nat} (hsl : ∀ j ∈ t.slots, j ∈ vs) (hq : rd K mg Γ (fLc it vs t tt F) σ H Q) :
    tLc (rdI K mg Γ it) (fun v σ H Q => ∃ Γ, rdG K mg Γ t v σ H Q) (fun σ H Q => ∃ Γ, rdT K mg Γ tt σ H Q) (fun σ H Q => ∃ Γ, rd K mg Γ F σ H Q) vs σ H Q := by
  obtain ⟨τ0, ok0, hq⟩ := hq
  refine ⟨τ0, ok0, ?_⟩
  unfold fLc at hq
  cases hrun : it.run τ0 with
  | bad => rw [hrun] at hq; exact hq.elim
  | ex e τ' => rw [hrun] at hq; exact hq
  | ok ds τ1 =>
    simp only [hrun, R.bind] at hq
    by_cases hcl : clear τ1 vs = true
    · rw [if_pos hcl] at hq
      have hclr := clear_get τ1 hcl
      intro J G H1 s1 ok1 wk g1 D hD
      obtain ⟨Γ', hpn, hup⟩ := pinned_of ok0 hrun
      have ok1' := hup (Γ2 := Γ) trivial ok1
      have eO : Γ'.O = Γ.O := hpn.B.1
      have hL : ¬ Γ'.L D := ok1'.noL hD
      have h0 : Γ'.H0 D = none := ok1'.free0 hD
      have hP : ∀ j ∈ vs, (Γ'.add D).P j = none := fun j hj => by
        cases q : Γ'.P j with
        | none => exact q
        | some a =>
          obtain ⟨_, d, l, z⟩ := ok1'.pn j a q
          rcases hclr j hj with z2 | ⟨_, z2⟩ <;> (rw [z] at z2; cases z2)
      -- the state of the first turn
      have kD : ∀ a o, H1 a = some o → upd H1 D (.lst []) a = some o := fun a o e => by rw [upd_ne (ne_of_none e hD)]; exact e
      have okD : SOk K mg (Γ'.add D) τ1 σ (upd H1 D (.lst [])) := ok1'.grow_add kD hD ⟨_, upd_same⟩
      -- between two turns
      let W : Nat → Nat → Hp → Prop := fun i m H' => m = ds.length - i ∧ i ≤ ds.length ∧ ∃ τ σ' acc accV, SOk K mg (Γ'.add D) τ σ' H' ∧ L2.wipe σ' vs = L2.wipe σ vs ∧ H' D = some (.lst accV) ∧ RepA K mg ((Γ'.add D).O τ σ') H' accV acc ∧
        G ((Γ'.add D).O τ σ') (fun a => mutS τ σ' a ∨ a = D) H' ∧ Step σ τ1 H1 σ' τ H' ∧ fin K mg Γ σ τ0 H ((lcLoop vs t tt F (ds.drop i) acc τ).bind fun acc σ2 => .ok ⟨.lst acc, true⟩ (it.off τ0 (unwipe τ1 σ2 vs))) Q
      have gD : G ((Γ'.add D).O τ1 σ) (fun a => mutS τ1 σ a ∨ a = D) (upd H1 D (.lst [])) := by
        refine wk.keep _ _ _ _ _ _ g1 ⟨fun a x h e => ?_, fun a x e _ => kD a x e⟩ (fun a x e _ => kD a x e) fun a x h e => ?_
        · rcases h with (h | h) | h
          · exact .inl (hpn.B.2.2.1 ▸ h)
          · rw [h, hD] at e; cases e
          · exact .inr h
        · rcases h with h | h
          · exact h
          · rw [h, hD] at e; cases e
      refine ⟨W, ⟨ds.length, by simp, Nat.zero_le _, τ1, σ, [], [], okD, rfl, upd_same, .nil, gD, .grow kD, hq⟩, fun i m H' hW => ?_⟩
      obtain ⟨rfl, hi', τ, σ', acc, accV, ok, hw, eD, ra, g, st, hr⟩ := hW
      by_cases hlt : i < ds.length
      · refine .inr ⟨wk.go _ _ _ i g hlt, W (i + 1) (ds.length - (i + 1)), fun H2 w => ⟨ds.length - (i + 1), by omega, w⟩, fun x H3 hy => ?_⟩
        have ed : ds[i]? = some ds[i] := List.getElem?_eq_getElem hlt
        obtain ⟨gr, rp⟩ := wk.yld _ _ _ i ds[i] x H3 g ed hy
        have edrop : ds.drop i = ds[i] :: ds.drop (i + 1) := List.drop_eq_getElem_cons hlt
        rw [edrop] at hr
        simp only [lcLoop] at hr
        have okg := ok.grow gr
        obtain ⟨okw, oww, mtw⟩ := okg.wipe hP
        rw [hw] at okw oww mtw
        have stw : Step σ' τ H' (L2.wipe σ vs) (wipeS τ vs) H3 := ⟨fun a _ z _ => oww a z, fun a _ z _ => mtw a z, fun a x e _ => gr a x e, fun a x e => ⟨x, gr a x e⟩⟩
        have hO : ∀ a, (Γ'.add D).O (wipeS τ vs) (L2.wipe σ vs) a → (Γ'.add D).O τ σ' a := fun a h => h.elim .inl fun z => .inr (oww a z)
        refine ⟨Γ'.add D, wipeS τ vs, ds[i], okw, rp.weak hO, ?_⟩
        cases e1 : t.put ds[i] (wipeS τ vs) with
        | none => rw [e1] at hr; exact hr.elim
        | some τa =>
          simp only [e1] at hr
          intro σ2 H2 s2 ok2 ag
          have hw2 : L2.wipe σ2 vs = L2.wipe σ vs := by
            refine List.ext_getElem? fun j => ?_
            rw [wipe_get, wipe_get]
            by_cases hj : j ∈ vs
            · rw [if_pos hj, if_pos hj]
              have l1 : σ2.length = σ.length := by
                rw [← ok2.len]
                have := okw.len
                rw [wipe_length] at this
                rw [Tg.put_len e1, this]
              cases q : σ2[j]? with
              | none =>
                have := List.getElem?_eq_none_iff.mp q
                rw [List.getElem?_eq_none (by omega)]
              | some y =>
                have := (List.getElem?_eq_some_iff.mp q).1
                rw [List.getElem?_eq_getElem (by omega)]
                rfl
            · rw [if_neg hj, if_neg hj, ag j fun z => hj (hsl j z), wipe_get, if_neg hj]
          refine ⟨hw2, Γ'.add D, τa, ok2, ?_⟩
          have stA : Step σ' τ H' σ2 τa H2 := stw.trans s2
          cases e2 : tt τa with
          | bad => rw [e2] at hr; exact hr.elim
          | ex e τ' => rw [e2] at hr; show Γ'.xw e τ'; rw [hpn.B.2.1]; exact hr
          | ok b τ2 =>
            simp only [e2, R.bind] at hr
            intro H4 s4 ok4
            have eD4 : ∀ {σa τb Ha}, Step σ' τ H' σa τb Ha → Ha D = some (.lst accV) := fun st' => st'.k D _ eD fun z => by
              obtain ⟨_, o⟩ := ok.mut_lst z
              obtain ⟨j, d, h, e⟩ := z
              rcases h with h | h
              · obtain ⟨a, e', ⟨_, n⟩, _⟩ := ok.sl j _ h
                rw [e] at e'; cases e'
                exact n (.inr rfl)
              · obtain ⟨a, e', ⟨n, _⟩, _⟩ := ok.sl j _ h
                rw [e] at e'; cases e'
                exact hL n
            have stB : Step σ' τ H' σ2 τ2 H4 := stA.trans s4
            have gk : ∀ {σa τb Ha}, Step σ' τ H' σa τb Ha → SOk K mg (Γ'.add D) τb σa Ha → G ((Γ'.add D).O τb σa) (fun a => mutS τb σa a ∨ a = D) Ha := fun {σa τb Ha} st' _ =>
              wk.keep _ _ _ _ _ _ g (st'.stay ok) (fun a x e n => st'.k a x e fun z => n (.inl z)) fun a x h e => h.elim (fun z => .inl (st'.m a x z e)) .inr
            cases b with
            | false =>
              rw [if_neg Bool.false_ne_true] at hr ⊢
              exact ⟨rfl, hlt, τ2, σ2, acc, accV, ok4, hw2, eD4 stB, ra.stay (stB.stay ok), gk stB ok4, st.trans stB, hr⟩
            | true =>
              rw [if_pos rfl] at hr ⊢
              refine ⟨Γ'.add D, τ2, ok4, ?_⟩
              cases e3 : F τ2 with
              | bad => rw [e3] at hr; exact hr.elim
              | ex e τ' => rw [e3] at hr; show Γ'.xw e τ'; rw [hpn.B.2.1]; exact hr
              | ok r τ3 =>
                simp only [e3, R.bind] at hr
                intro y H5 ps
                obtain ⟨s5, ok5, rp5⟩ := ps.frz ok4
                have stC : Step σ' τ H' σ2 τ3 H5 := stB.trans s5
                by_cases hz : acc.length < sizeLine
                · rw [if_pos hz] at hr
                  have eD5 := eD4 stC
                  have ra5 := ra.stay (stC.stay ok)
                  refine ⟨accV, eD5, by rw [ra.length]; exact hz, rfl, hlt, τ3, σ2, acc ++ [r.d], accV ++ [y], ok5.atB (.inr rfl) hL h0 eD5, hw2, upd_same, ?_, ?_, (st.trans stC).off_at hD eD5, hr⟩
                  · refine (ra5.append (.cons rp5 .nil)).stay ⟨fun a x h _ => h, fun a x e h => ?_⟩
                    by_cases ha : a = D
                    · subst ha
                      rw [eD5] at e; cases e
                      exact h.elim (fun z => z.elim) fun z => absurd (.inl (.inr rfl)) z
                    · rw [upd_ne ha]; exact e
                  · refine wk.keep _ _ _ _ _ _ (gk stC ok5) ⟨fun a x h _ => h, fun a x e h => ?_⟩ (fun a x e n => ?_) fun a x h _ => h
                    · by_cases ha : a = D
                      · subst ha
                        rw [eD5] at e; cases e
                        exact h.elim (fun z => z.elim) fun z => absurd (.inl (.inr rfl)) z
                      · rw [upd_ne ha]; exact e
                    · rw [upd_ne (fun z => n (.inr z))]; exact e
                · rw [if_neg hz] at hr; exact hr.elim
      · have e : i = ds.length := by omega
        subst e
        rw [List.drop_length] at hr
        simp only [lcLoop, R.bind] at hr
        refine .inl ⟨wk.stop _ _ _ g, hr _ H' ?_⟩
        -- the names of the block are as they were
        obtain ⟨okw, oww, mtw⟩ := ok.wipe hP
        rw [hw] at okw oww mtw
        have hl : τ1.length = (wipeS τ vs).length := by
          rw [ok1.len, okw.len, wipe_length]
        have hO : ∀ a, (Γ'.add D).O (wipeS τ vs) (L2.wipe σ vs) a → (Γ'.add D).O τ σ' a := fun a h => h.elim .inl fun z => .inr (oww a z)
        obtain ⟨oku, owu, mtu⟩ := okw.unwipe (τ0 := τ1) (σ := σ) hl fun j hj => by
          rcases hclr j hj with q | ⟨d, q⟩
          · exact .inl q
          · obtain ⟨v, q1, q2⟩ := ok1.sl j _ q
            refine .inr ⟨d, v, q, q1, ?_⟩
            have st' : Stay (Γ.O τ1 σ) H1 ((Γ'.add D).O (wipeS τ vs) (L2.wipe σ vs)) H' := by
              refine ⟨fun a x h e => ?_, (st.stay ok1).k⟩
              rcases h with (h | h) | h
              · exact .inl (hpn.B.2.2.1 ▸ h)
              · rw [h, hD] at e; cases e
              · exact .inr (st.o a x (oww a h) e)
            exact q2.stay st'
        have eq1 : Wt.unwipe τ1 (wipeS τ vs) vs = Wt.unwipe τ1 τ vs := by
          refine List.ext_getElem? fun j => ?_
          rw [unwipe_get τ1 _ hl, unwipe_get τ1 τ (by rw [hl, wipeS_len])]
          by_cases hj : j ∈ vs
          · rw [if_pos hj, if_pos hj]
          · rw [if_neg hj, if_neg hj, wipeS_get, if_neg hj]
        rw [eq1] at oku owu mtu
        have stE : Step σ τ1 H1 σ (Wt.unwipe τ1 τ vs) H' := ⟨fun a x z e => st.o a x (oww a (owu a z)) e, fun a x z e => st.m a x (mtw a (mtu a z)) e, st.k, st.t⟩
        have hp' : Pinned (Γ.add D) it τ0 σ (Γ'.add D) := by
          cases hpn with
          | no h => exact .no h
          | sl h1 h2 h3 => exact .sl (Γ := Γ.add D) h1 h2 h3
        obtain ⟨okf, owf⟩ := off_sok hp' oku
        refine ⟨off_step hp' (s1.trans stE) oku, D, rfl, s1.free hD, okf, accV, acc, rfl, eD, ra.weak fun a z => ?_⟩
        rcases z with z | z
        · exact .inl (by show Γ'.B a ∨ a = D; rw [hpn.B.2.2.1]; exact z)
        · exact .inr (oww a (owu a ((owf a).mp z)))
    · rw [if_neg hcl] at hq; exact hq.elim
theorem de_lc (hc : X.calm = true) (hN : X.N.Nodup) (hi : DI X tg iter it) (okB : BlkOk X.N X.env.scope scope own)
    (hg : ∀ (s : Shared) (H : Hp) (C : Addr) (cl : List (Str × Addr)) (fp : List Addr), DG (X.blk s H scope (compEnvC scope cl C X.env) fp) tg t)
    (ht : ∀ (s : Shared) (H : Hp) (C : Addr) (cl : List (Str × Addr)) (fp : List Addr), DTs (X.blk s H scope (compEnvC scope cl C X.env) fp) ifs tt)
    (he : ∀ (s : Shared) (H : Hp) (C : Addr) (cl : List (Str × Addr)) (fp : List Addr), DE (X.blk s H scope (compEnvC scope cl C X.env) fp) elt F)
    (hsl : ∀ j ∈ t.slots, j ∈ own.map (·.2)) (hs : ∀ x, foldedSetIterable iter X.env x = pure x := by intro _; rfl) :
    DE X (.ListComp elt [⟨tg, iter, ifs, 0⟩] scope pos) (fLc it (own.map (·.2)) t tt F) := fun Γ => peM (pe_lc hc hN (hi Γ) okB
    (fun s H C cl fp => ⟨fun pins s' σ H v u Q I r ⟨Γ, h⟩ => (hg s _ C cl fp Γ).run pins s' σ H v u Q I r h⟩)
    (fun s H C cl fp => ⟨fun pins s' σ H Q I ⟨Γ, h⟩ => (ht s _ C cl fp Γ).run pins s' σ H Q I h⟩)
    (fun s H C cl fp => ⟨fun pins s' σ H Q I ⟨Γ, h⟩ => (he s _ C cl fp Γ).run pins s' σ H Q I h⟩) hs) fun σ H Q hq => lc_read hsl hq
/-- name = [..] on one line -/
theorem ds_setLc {i : Nat} {y : Str} {py spos : Pos} (hc : X.calm = true) (hN : X.N.Nodup) (hy : X.N[i]? = some y) (hyl : X.env.scope.names.lookup y = some .local)
    (hsw : swapsWith (.ListComp elt [⟨tg, iter, ifs, 0⟩] scope pos) (some (.Name y py)) spos.line X.env = pure true) (hi : DI X tg iter it) (okB : BlkOk X.N X.env.scope scope own)
    (hg : ∀ (s : Shared) (H : Hp) (C : Addr) (cl : List (Str × Addr)) (fp : List Addr), DG (X.blk s H scope (compEnvC scope cl C X.env) fp) tg t)
    (ht : ∀ (s : Shared) (H : Hp) (C : Addr) (cl : List (Str × Addr)) (fp : List Addr), DTs (X.blk s H scope (compEnvC scope cl C X.env) fp) ifs tt)
    (he : ∀ (s : Shared) (H : Hp) (C : Addr) (cl : List (Str × Addr)) (fp : List Addr), DE (X.blk s H scope (compEnvC scope cl C X.env) fp) elt F)
    (hsl : ∀ j ∈ t.slots, j ∈ own.map (·.2)) (hs : ∀ x, foldedSetIterable iter X.env x = pure x := by intro _; rfl) :
    DS X (.Assign [.Name y py] (.ListComp elt [⟨tg, iter, ifs, 0⟩] scope pos) spos) (sSet i (fLc it (own.map (·.2)) t tt F)) := fun Γ => psM (ps_setLc hc hN hy hyl hsw (hi Γ) okB
    (fun s H C cl fp => ⟨fun pins s' σ H v u Q I r ⟨Γ, h⟩ => (hg s _ C cl fp Γ).run pins s' σ H v u Q I r h⟩)
    (fun s H C cl fp => ⟨fun pins s' σ H Q I ⟨Γ, h⟩ => (ht s _ C cl fp Γ).run pins s' σ H Q I h⟩)
    (fun s H C cl fp => ⟨fun pins s' σ H Q I ⟨Γ, h⟩ => (he s _ C cl fp Γ).run pins s' σ H Q I h⟩) hs) fun N σ H hq => lc_read hsl (set_rd hq)
end
end Wt
set_option autoImplicit false
set_option Elab.async false
set_option linter.all false
set_option maxRecDepth 100000
/-! Wt.Prim: the built-ins upon trees: operators. -/
namespace Wt
open PySem PySem.Spec PyProof.Rows L2

/-! ### reading off values -/
section
variable {K : PySem.W.Frag} {mg : Str → Option Value} {O : As} {H H' : Hp} {x : V}
theorem rep_int {i : Int} (r : RepT K mg O H x (.int i)) : x = .int i := by
  cases r with
  | rep r => cases r; rfl
  | own c => obtain ⟨_, _, e, _⟩ := c; cases e
theorem rep_bl {i : Bool} (r : RepT K mg O H x (.bl i)) : x = .bl i := by
  cases r with
  | rep r => cases r; rfl
  | own c => obtain ⟨_, _, e, _⟩ := c; cases e
theorem rep_str {i : Str} (r : RepT K mg O H x (.str i)) : x = .str i := by
  cases r with
  | rep r => cases r; rfl
  | own c => obtain ⟨_, _, e, _⟩ := c; cases e
theorem rep_non (r : RepT K mg O H x .non) : x = .non := by
  cases r with
  | rep r => cases r; rfl
  | own c => obtain ⟨_, _, e, _⟩ := c; cases e
theorem rep_tup {ds : List D} (r : RepT K mg O H x (.tup ds)) : ∃ a xs, x = .ref a ∧ SqT K H a xs ∧ RepA K mg O H xs ds := by
  cases r with
  | rep r => cases r with | tup h t => exact ⟨_, _, rfl, h, t⟩
  | own c => obtain ⟨_, _, e, _⟩ := c; cases e
theorem rep_lst {ds : List D} (r : RepT K mg O H x (.lst ds)) : ∃ a xs, x = .ref a ∧ SqL K H a xs ∧ RepA K mg O H xs ds := by
  cases r with
  | rep r =>
    cases r with
    | lst n h t => exact ⟨_, _, rfl, .inl h, t⟩
    | lstW a b c d e f t => exact ⟨_, _, rfl, .inr ⟨_, _, _, a, b, c, d, e, f⟩, t⟩
  | own c =>
    obtain ⟨xs, ds', e, h, t⟩ := c
    cases e
    exact ⟨_, xs, rfl, .inl (.inl h), t⟩
/-- list or tuple -/
theorem rep_sq {d : D} {ds : List D} (r : RepT K mg O H x d) (e : itemsOf d = some ds) : ∃ a xs, x = .ref a ∧ (SqL K H a xs ∨ SqT K H a xs) ∧ RepA K mg O H xs ds := by
  cases d with
  | tup es =>
    cases e
    obtain ⟨a, xs, h1, h2, h3⟩ := rep_tup r
    exact ⟨a, xs, h1, .inr h2, h3⟩
  | lst es =>
    cases e
    obtain ⟨a, xs, h1, h2, h3⟩ := rep_lst r
    exact ⟨a, xs, h1, .inl h2, h3⟩
  | _ => cases e
theorem ra1 {vs : List V} {d : D} (r : RepTA K mg O H vs [d]) : ∃ x, vs = [x] ∧ RepT K mg O H x d := by
  cases r with | cons a t => cases t; exact ⟨_, rfl, a⟩
theorem ra2 {vs : List V} {d e : D} (r : RepTA K mg O H vs [d, e]) : ∃ x y, vs = [x, y] ∧ RepT K mg O H x d ∧ RepT K mg O H y e := by
  cases r with | cons a t => obtain ⟨y, rfl, b⟩ := ra1 t; exact ⟨_, y, rfl, a, b⟩
theorem PAl.same {v : V} {d : D} (r : Rep K mg O H v d) : PAl K mg O H ⟨d, false⟩ v H := ⟨fun _ _ h => h, r⟩
theorem PAl.toks {v : V} {d : D} (k : ∀ a o, H a = some o → H' a = some o) (r : Rep K mg O H v d) : PAl K mg O H ⟨d, false⟩ v H' := ⟨k, r.stay ⟨fun _ _ h _ => h, fun a x e _ => k a x e⟩⟩
theorem upd_keep {p : Addr} {u : HO} (hp : H p = none) : ∀ a o, H a = some o → upd H p u a = some o := fun a o e => by
  rw [upd_ne (fun z => by rw [z, hp] at e; cases e)]; exact e
theorem PAl.new_lst {p : Addr} {xs : List V} {ds : List D} (hp : H p = none) (r : RepA K mg O H xs ds) : PAl K mg O H ⟨.lst ds, true⟩ (.ref p) (upd H p (.lst xs)) := by
  refine ⟨upd_keep hp, p, rfl, hp, xs, ds, rfl, upd_same .., r.stay ⟨fun a x h e => ?_, fun a x e _ => upd_keep hp a x e⟩⟩
  rcases h with h | h
  · exact h
  · rw [h, hp] at e; cases e
theorem PAl.new_tup {p : Addr} {xs : List V} {ds : List D} (hp : H p = none) (r : RepA K mg O H xs ds) : PAl K mg O H ⟨.tup ds, false⟩ (.ref p) (upd H p (.tup xs)) :=
  ⟨upd_keep hp, .tup (.inl (.inl (upd_same ..))) (r.stay ⟨fun a x h e => h, fun a x e _ => upd_keep hp a x e⟩)⟩
theorem RepA.ints : ∀ {vs : List V} {ns : List Int}, RepA K mg O H vs (ns.map D.int) → vs = ns.map V.int
  | [], [], _ => rfl
  | _, [], r => by cases r; rfl
  | _, n :: ns, r => by
    rw [List.map_cons] at r
    cases r with
    | cons h t => cases h; rw [RepA.ints t]; rfl
theorem RepA.strs : ∀ {vs : List V} {ns : List Str}, RepA K mg O H vs (ns.map D.str) → vs = ns.map V.str
  | _, [], r => by cases r; rfl
  | _, n :: ns, r => by
    rw [List.map_cons] at r
    cases r with
    | cons h t => cases h; rw [RepA.strs t]; rfl
theorem RepA.bls : ∀ {vs : List V} {ns : List Bool}, RepA K mg O H vs (ns.map D.bl) → vs = ns.map V.bl
  | _, [], r => by cases r; rfl
  | _, n :: ns, r => by
    rw [List.map_cons] at r
    cases r with
    | cons h t => cases h; rw [RepA.bls t]; rfl
end
/-- all ints, texts, truths -/
def intsOf : List D → Option (List Int)
  | [] => some []
  | .int i :: ds => (intsOf ds).map (i :: ·)
  | _ => none
def strsOf : List D → Option (List Str)
  | [] => some []
  | .str i :: ds => (strsOf ds).map (i :: ·)
  | _ => none
def blsOf : List D → Option (List Bool)
  | [] => some []
  | .bl i :: ds => (blsOf ds).map (i :: ·)
  | _ => none
theorem intsOf_eq : ∀ {ds : List D} {ns : List Int}, intsOf ds = some ns → ds = ns.map .int
  | [], ns, h => by cases h; rfl
  | d :: ds, ns, h => by
    cases d with
    | int i =>
      simp only [intsOf, Option.map_eq_some_iff] at h
      obtain ⟨ms, h1, rfl⟩ := h
      rw [intsOf_eq h1]; rfl
    | _ => simp [intsOf] at h
theorem strsOf_eq : ∀ {ds : List D} {ns : List Str}, strsOf ds = some ns → ds = ns.map .str
  | [], ns, h => by cases h; rfl
  | d :: ds, ns, h => by
    cases d with
    | str i =>
      simp only [strsOf, Option.map_eq_some_iff] at h
      obtain ⟨ms, h1, rfl⟩ := h
      rw [strsOf_eq h1]; rfl
    | _ => simp [strsOf] at h
theorem blsOf_eq : ∀ {ds : List D} {ns : List Bool}, blsOf ds = some ns → ds = ns.map .bl
  | [], ns, h => by cases h; rfl
  | d :: ds, ns, h => by
    cases d with
    | bl i =>
      simp only [blsOf, Option.map_eq_some_iff] at h
      obtain ⟨ms, h1, rfl⟩ := h
      rw [blsOf_eq h1]; rfl
    | _ => simp [blsOf] at h

/-! ### arithmetic -/
def sm64 (i : Int) : Bool := decide (-(2 ^ 64) < i) && decide (i < 2 ^ 64)
def pAdd : List D → Option RV
  | [.int i, .int j] => some ⟨.int (i + j), false⟩
  | [.str x, .str y] => if x.length + y.length ≤ sizeLine then some ⟨.str (x ++ y), false⟩ else none
  | [.lst xs, .lst ys] => if xs.length + ys.length ≤ sizeLine then some ⟨.lst (xs ++ ys), true⟩ else none
  | [.tup xs, .tup ys] => if xs.length + ys.length ≤ sizeLine then some ⟨.tup (xs ++ ys), false⟩ else none
  | _ => none
def pSub : List D → Option RV
  | [.int i, .int j] => some ⟨.int (i - j), false⟩
  | _ => none
def strRep (x : Str) (n : Int) : Str := if n < 1 then Str.empty else if n = 1 then x else ⟨(List.replicate n.toNat x.cps).foldl (· ++ ·) #[]⟩
def pMul : List D → Option RV
  | [.int i, .int j] => if sm64 i || sm64 j then some ⟨.int (i * j), false⟩ else none
  | [.str x, .int n] => if x.length ≤ 1000 ∧ 0 < x.length ∧ n ≤ 1000 ∧ -1000 ≤ n ∧ (strRep x n).length ≤ sizeLine then some ⟨.str (strRep x n), false⟩ else none
  | _ => none
def pDiv : List D → Option RV
  | [.int i, .int j] => if 0 < j ∧ j < 1073741824 then some ⟨.int (i / j), false⟩ else none
  | _ => none
def pMod : List D → Option RV
  | [.int i, .int j] => if 0 < j then some ⟨.int (i % j), false⟩ else none
  | _ => none
def pPow : List D → Option RV
  | [.int i, .int j] => if 0 ≤ j ∧ j ≤ 1000000 ∧ i.natAbs < 2 ^ 64 then some ⟨.int (i ^ j.toNat), false⟩ else none
  | _ => none
def pNeg : List D → Option RV
  | [.int i] => some ⟨.int (-i), false⟩
  | _ => none
section
variable {X : Cx}
theorem op_catW : OpR X (binaryOp .Add) (fun x y H Q => ∃ l b xs zs, x = .ref l ∧ y = .ref b ∧ SqL X.K H l xs ∧ SqL X.K H b zs ∧ xs.length + zs.length ≤ sizeLine ∧ ∀ p, H p = none → Q (.ref p) (upd H p (.lst (xs ++ zs)))) := by
  intro pins s σ H x y v u Q I rx ry h
  obtain ⟨l, b, xs, zs, rfl, rfl, hH, hB, hz, q⟩ := h
  cases rx
  cases ry
  obtain ⟨its, r, ⟨⟨cls, dd, data, sl⟩, n, ho, hc, hdn, hd⟩, _⟩ := I.list hH
  obtain ⟨its2, r2, ⟨⟨cls2, dd2, data2, sl2⟩, n2, ho2, hc2, hdn2, hd2⟩, _⟩ := I.list hB
  simp only at hc hd hc2 hd2
  subst hc hd hc2 hd2
  have e : its.toArray ++ its2.toArray = (its ++ its2).toArray := by simp
  have h1 := r.length
  have h2 := r2.length
  refine concat_meets ⟨_, ho, rfl⟩ ⟨_, ho2, rfl⟩ noFill_list_add seq_list_add PySem.F.slot_list_add PySem.F.entry_list_add (PySem.F.args_list_add_2 _ _) (list_addW l b its.toArray its2.toArray n n2 dd dd2 sl sl2 (by simp only [List.size_toArray]; omega)) ⟨ho, ho2, ?_⟩
  rw [e]
  exact ⟨.ref _, _, I.lnew (t' := s.toks) (r.append r2) (by rw [List.length_append]; omega), rfl, q _ I.fresh⟩
theorem op_mul_str : OpR X (binaryOp .Mult) (fun x y H Q => ∃ z n, x = .str z ∧ y = .int n ∧ z.length ≤ 1000 ∧ 0 < z.length ∧ n ≤ 1000 ∧ -1000 ≤ n ∧ (strRep z n).length ≤ sizeLine ∧ Q (.str (strRep z n)) H) := by
  intro pins s σ H x y v u Q I rx ry h
  obtain ⟨z, n, rfl, rfl, h1, h2, h3, h4, hs, q⟩ := h
  obtain ⟨t, rfl⟩ := rx
  obtain ⟨t', rfl⟩ := ry
  have hm : z.length * n.toNat ≤ 1000 * 1000 := Nat.mul_le_mul h1 (by omega)
  refine P.mul_str (by
    have e1 : decide (n < -(2 ^ 63 : Int)) = false := decide_eq_false (by omega)
    have e2 : decide (n ≥ 2 ^ 63) = false := decide_eq_false (by omega)
    rw [e1, e2]; rfl) ?_ ?_ ?_
  · intro hn _ hc
    have hn1 : 0 < n := by omega
    have hk : (1000 : Int) ≤ 9223372036854775807 / n := (Int.le_ediv_iff_mul_le hn1).mpr (by omega)
    have : ((2 : Int) ^ 63 - 1) = 9223372036854775807 := by decide
    rw [this] at hc
    omega
  · intro hn _
    have := sizeLine_eq
    unfold Builtin.Str.tooLong
    exact decide_eq_false (by omega)
  · have hz : (z.length == 0) = false := by simp; omega
    unfold strRep at q hs
    by_cases c1 : n < 1
    · rw [if_pos c1] at q hs ⊢
      exact ⟨hs, .str _, H, I.tok _, ⟨_, rfl⟩, q⟩
    · rw [if_neg c1] at q hs ⊢
      by_cases c2 : n = 1
      · rw [if_pos c2] at q
        subst c2
        exact ⟨.str _, H, I, ⟨_, rfl⟩, q⟩
      · rw [if_neg c2] at q hs
        have : (n == 1 || z.length == 0) = false := by rw [hz]; simp [c2]
        rw [this]
        exact ⟨hs, .str _, H, I.tok _, ⟨_, rfl⟩, q⟩
theorem po_add : PrimO X (binaryOp .Add) pAdd := fun pins s σ H x y v u Q I rx ry h => by
  obtain ⟨O, ds, r, ra, hp, q⟩ := h
  unfold pAdd at hp
  split at hp
  · obtain ⟨x', y', e, r1, r2⟩ := ra2 ra
    cases e; cases hp
    cases rep_int r1; cases rep_int r2
    exact op_add pins s σ H _ _ v u Q I rx ry ⟨_, _, rfl, rfl, q _ _ (.same (.int _))⟩
  · obtain ⟨x', y', e, r1, r2⟩ := ra2 ra
    split at hp
    · rename_i hz
      cases e; cases hp
      cases rep_str r1; cases rep_str r2
      exact op_add_str pins s σ H _ _ v u Q I rx ry ⟨_, _, rfl, rfl, hz, q _ _ (.same (.str _))⟩
    · cases hp
  · obtain ⟨x', y', e, r1, r2⟩ := ra2 ra
    split at hp
    · rename_i hz
      cases e; cases hp
      obtain ⟨a, xs, rfl, h1, t1⟩ := rep_lst r1
      obtain ⟨b, ys, rfl, h2, t2⟩ := rep_lst r2
      exact op_catW pins s σ H _ _ v u Q I rx ry ⟨_, _, _, _, rfl, rfl, h1, h2, by rw [t1.length, t2.length]; exact hz, fun p hp => q _ _ (.new_lst hp (t1.append t2))⟩
    · cases hp
  · obtain ⟨x', y', e, r1, r2⟩ := ra2 ra
    split at hp
    · rename_i hz
      cases e; cases hp
      obtain ⟨a, xs, rfl, h1, t1⟩ := rep_tup r1
      obtain ⟨b, ys, rfl, h2, t2⟩ := rep_tup r2
      refine op_catA pins s σ H _ _ v u Q I rx ry ⟨_, _, _, _, rfl, rfl, h1, h2, by rw [t1.length, t2.length]; exact hz, fun z => ?_, fun _ z => ?_, fun _ _ p hp => q _ _ (.new_tup hp (t1.append t2))⟩
      · subst z
        cases t1
        exact q _ _ (.same (.tup h2 t2))
      · subst z
        cases t2
        rw [List.append_nil] at q
        exact q _ _ (.same (.tup h1 t1))
    · cases hp
  · cases hp
theorem po_sub : PrimO X (binaryOp .Sub) pSub := fun pins s σ H x y v u Q I rx ry h => by
  obtain ⟨O, ds, r, ra, hp, q⟩ := h
  unfold pSub at hp
  split at hp
  · obtain ⟨x', y', e, r1, r2⟩ := ra2 ra
    cases e; cases hp
    cases rep_int r1; cases rep_int r2
    exact op_sub pins s σ H _ _ v u Q I rx ry ⟨_, _, rfl, rfl, q _ _ (.same (.int _))⟩
  · cases hp
theorem sm64_or {i j : Int} (h : (sm64 i || sm64 j) = true) : CMul i j := by
  simp only [sm64, Bool.or_eq_true, Bool.and_eq_true, decide_eq_true_eq] at h
  exact h
theorem po_mul : PrimO X (binaryOp .Mult) pMul := fun pins s σ H x y v u Q I rx ry h => by
  obtain ⟨O, ds, r, ra, hp, q⟩ := h
  unfold pMul at hp
  split at hp
  · obtain ⟨x', y', e, r1, r2⟩ := ra2 ra
    split at hp
    · rename_i hz
      cases e; cases hp
      cases rep_int r1; cases rep_int r2
      exact op_mul pins s σ H _ _ v u Q I rx ry ⟨_, _, rfl, rfl, sm64_or hz, q _ _ (.same (.int _))⟩
    · cases hp
  · obtain ⟨x', y', e, r1, r2⟩ := ra2 ra
    split at hp
    · rename_i hz
      cases e; cases hp
      cases rep_str r1; cases rep_int r2
      exact op_mul_str pins s σ H _ _ v u Q I rx ry ⟨_, _, rfl, rfl, hz.1, hz.2.1, hz.2.2.1, hz.2.2.2.1, hz.2.2.2.2, q _ _ (.same (.str _))⟩
    · cases hp
  · cases hp
theorem po_div : PrimO X (binaryOp .FloorDiv) pDiv := fun pins s σ H x y v u Q I rx ry h => by
  obtain ⟨O, ds, r, ra, hp, q⟩ := h
  unfold pDiv at hp
  split at hp
  · obtain ⟨x', y', e, r1, r2⟩ := ra2 ra
    split at hp
    · rename_i hz
      cases e; cases hp
      cases rep_int r1; cases rep_int r2
      exact op_fdiv pins s σ H _ _ v u Q I rx ry ⟨_, _, rfl, rfl, hz, q _ _ (.same (.int _))⟩
    · cases hp
  · cases hp
theorem po_mod : PrimO X (binaryOp .Mod) pMod := fun pins s σ H x y v u Q I rx ry h => by
  obtain ⟨O, ds, r, ra, hp, q⟩ := h
  unfold pMod at hp
  split at hp
  · obtain ⟨x', y', e, r1, r2⟩ := ra2 ra
    split at hp
    · rename_i hz
      cases e; cases hp
      cases rep_int r1; cases rep_int r2
      exact op_mod pins s σ H _ _ v u Q I rx ry ⟨_, _, rfl, rfl, hz, q _ _ (.same (.int _))⟩
    · cases hp
  · cases hp
theorem po_pow : PrimO X (binaryOp .Pow) pPow := fun pins s σ H x y v u Q I rx ry h => by
  obtain ⟨O, ds, r, ra, hp, q⟩ := h
  unfold pPow at hp
  split at hp
  · obtain ⟨x', y', e, r1, r2⟩ := ra2 ra
    split at hp
    · rename_i hz
      cases e; cases hp
      cases rep_int r1; cases rep_int r2
      exact op_pow pins s σ H _ _ v u Q I rx ry ⟨_, _, rfl, rfl, hz, q _ _ (.same (.int _))⟩
    · cases hp
  · cases hp
theorem po_neg : PrimU X (unaryOp .USub) pNeg := fun pins s σ H x v Q I rx h => by
  obtain ⟨O, ds, r, ra, hp, q⟩ := h
  unfold pNeg at hp
  split at hp
  · obtain ⟨x', e, r1⟩ := ra1 ra
    cases e; cases hp
    cases rep_int r1
    exact un_neg pins s σ H _ v Q I rx ⟨_, rfl, q _ _ (.same (.int _))⟩
  · cases hp
end
end Wt
set_option autoImplicit false
set_option Elab.async false
set_option linter.all false
set_option maxRecDepth 100000
/-! Wt.Prim2: comparisons, membership. -/
namespace Wt
open PySem PySem.Spec PyProof.Rows L2

/-! ### trees as data -/
mutual
def toP : D → PyData
  | .bl b => .bool b
  | .int i => .int i
  | .str x => .str x
  | .tup xs => .tuple (toPs xs)
  | .lst xs => .list (toPs xs)
  | _ => .none
def toPs : List D → List PyData
  | [] => []
  | x :: xs => toP x :: toPs xs
end
def shp (d : D) : Bool := plain d && SeqAt.shaped (toP d)
theorem shp_plain {d : D} (h : shp d = true) : plain d = true := (Bool.and_eq_true_iff.mp h).1
theorem shp_shaped {d : D} (h : shp d = true) : SeqAt.shaped (toP d) = true := (Bool.and_eq_true_iff.mp h).2
section
variable {K : PySem.W.Frag} {mg : Str → Option Value} {O : As} {H : Hp}
mutual
theorem Rep.dp : ∀ {v : V} {d : D}, Rep K mg O H v d → plain d = true → Dp K H v (toP d)
  | _, _, .non, _ => .non
  | _, _, .bl b, _ => .bl b
  | _, _, .int b, _ => .int b
  | _, _, .str b, _ => .str b
  | _, _, .tup h t, p => .tup h (RepA.dp t (by simpa [plain] using p))
  | _, _, .lst n h t, p => .lst (.inl h) (RepA.dp t (by simpa [plain] using p))
  | _, _, .lstW a b c d e f t, p => .lst (.inr ⟨_, _, _, a, b, c, d, e, f⟩) (RepA.dp t (by simpa [plain] using p))
  | _, _, .dct _ _ _ _, p => by simp [plain] at p
  | _, _, .fn _, p => by simp [plain] at p
theorem RepA.dp : ∀ {vs : List V} {ds : List D}, RepA K mg O H vs ds → plains ds = true → DpAll K H vs (toPs ds)
  | _, _, .nil, _ => .nil
  | _, _, .cons r t, p => by
    simp only [plains, Bool.and_eq_true] at p
    exact .cons (Rep.dp r p.1) (RepA.dp t p.2)
end
theorem RepT.dp {v : V} {d : D} (r : RepT K mg O H v d) (p : plain d = true) : Dp K H v (toP d) := by
  cases r with
  | rep r => exact r.dp p
  | own c =>
    obtain ⟨xs, ds, rfl, h, t⟩ := c
    exact .lst (.inl (.inl h)) (t.dp (by simpa [plain] using p))
end
mutual
theorem eqv_toP : ∀ (d e : D), plain d = true → plain e = true → PyData.eqv (toP d) (toP e) = eqv d e
  | .non, e, _, h => by cases e <;> simp [plain] at h <;> simp [toP, eqv, PyData.eqv]
  | .bl b, e, _, h => by cases e <;> simp [plain] at h <;> simp [toP, eqv, PyData.eqv]
  | .int b, e, _, h => by cases e <;> simp [plain] at h <;> simp [toP, eqv, PyData.eqv]
  | .str b, e, _, h => by cases e <;> simp [plain] at h <;> simp [toP, eqv, PyData.eqv]
  | .tup xs, e, p, h => by
    cases e with
    | tup ys => simp only [toP, eqv, PyData.eqv]; exact eqvs_toP xs ys (by simpa [plain] using p) (by simpa [plain] using h)
    | _ => first | (simp [plain] at h; done) | simp [toP, eqv, PyData.eqv]
  | .lst xs, e, p, h => by
    cases e with
    | lst ys => simp only [toP, eqv, PyData.eqv]; exact eqvs_toP xs ys (by simpa [plain] using p) (by simpa [plain] using h)
    | _ => first | (simp [plain] at h; done) | simp [toP, eqv, PyData.eqv]
  | .dct _, _, p, _ => by simp [plain] at p
  | .set _, _, p, _ => by simp [plain] at p
  | .fn _, _, p, _ => by simp [plain] at p
theorem eqvs_toP : ∀ (ds es : List D), plains ds = true → plains es = true → PyData.eqvAll (toPs ds) (toPs es) = eqvs ds es
  | [], [], _, _ => rfl
  | [], _ :: _, _, _ => by simp [toPs, eqvs, PyData.eqvAll]
  | _ :: _, [], _, _ => by simp [toPs, eqvs, PyData.eqvAll]
  | x :: xs, y :: ys, p, h => by
    simp only [plains, Bool.and_eq_true] at p h
    simp only [toPs, eqvs, PyData.eqvAll]
    rw [eqv_toP x y p.1 h.1, eqvs_toP xs ys p.2 h.2]
end
theorem any_toP (x : D) (hx : plain x = true) : ∀ (ds : List D), plains ds = true → ((toPs ds).any fun z => PyData.eqv z (toP x)) = ds.any fun z => eqv z x
  | [], _ => rfl
  | d :: ds, p => by
    simp only [plains, Bool.and_eq_true] at p
    simp only [toPs, List.any_cons]
    rw [eqv_toP d x p.1 hx, any_toP x hx ds p.2]

/-! ### scalars -/
/-- numbers, texts, None: their values -/
def flatD : D → Option V
  | .non => some .non
  | .bl b => some (.bl b)
  | .int b => some (.int b)
  | .str b => some (.str b)
  | _ => none
def flatDs : List D → Bool
  | [] => true
  | d :: ds => (flatD d).isSome && flatDs ds
section
variable {K : PySem.W.Frag} {mg : Str → Option Value} {O : As} {H : Hp}
theorem flat_rep {v w : V} {d : D} (r : RepT K mg O H v d) (e : flatD d = some w) : v = w ∧ flatV v = true := by
  cases d with
  | non => cases e; cases rep_non r; exact ⟨rfl, rfl⟩
  | bl => cases e; cases rep_bl r; exact ⟨rfl, rfl⟩
  | int => cases e; cases rep_int r; exact ⟨rfl, rfl⟩
  | str => cases e; cases rep_str r; exact ⟨rfl, rfl⟩
  | _ => cases e
theorem flat_eqV {v w : V} {d e : D} (r : RepT K mg O H v d) (q : RepT K mg O H w e) (h1 : (flatD d).isSome = true) (h2 : (flatD e).isSome = true) : eqV v w = eqv d e := by
  cases d with
  | non => cases rep_non r; cases e with
    | non => cases rep_non q; rfl
    | bl => cases rep_bl q; rfl
    | int => cases rep_int q; rfl
    | str => cases rep_str q; rfl
    | _ => cases h2
  | bl => cases rep_bl r; cases e with
    | non => cases rep_non q; rfl
    | bl => cases rep_bl q; simp [eqV, eqv]
    | int => cases rep_int q; simp [eqV, eqv]
    | str => cases rep_str q; rfl
    | _ => cases h2
  | int => cases rep_int r; cases e with
    | non => cases rep_non q; rfl
    | bl => cases rep_bl q; simp [eqV, eqv]
    | int => cases rep_int q; simp [eqV, eqv]
    | str => cases rep_str q; rfl
    | _ => cases h2
  | str => cases rep_str r; cases e with
    | non => cases rep_non q; rfl
    | bl => cases rep_bl q; rfl
    | int => cases rep_int q; rfl
    | str => cases rep_str q; simp [eqV, eqv]
    | _ => cases h2
  | _ => cases h1
theorem flats_rep : ∀ {vs : List V} {ds : List D}, RepA K mg O H vs ds → flatDs ds = true → vs.all flatV = true
  | _, _, .nil, _ => rfl
  | _, _, .cons (v := v) (d := d) r t, f => by
    simp only [flatDs, Bool.and_eq_true] at f
    rw [List.all_cons, flats_rep t f.2]
    obtain ⟨w, e⟩ := Option.isSome_iff_exists.mp f.1
    rw [(flat_rep (.rep r) e).2]; rfl
theorem flats_any {x : V} {d : D} (rx : RepT K mg O H x d) (fx : (flatD d).isSome = true) : ∀ {vs : List V} {ds : List D}, RepA K mg O H vs ds → flatDs ds = true → (vs.any fun y => eqV y x) = ds.any fun y => eqv y d
  | _, _, .nil, _ => rfl
  | _, _, .cons (v := v) (d := e) r t, f => by
    simp only [flatDs, Bool.and_eq_true] at f
    rw [List.any_cons, List.any_cons, flats_any rx fx t f.2, flat_eqV (.rep r) rx f.1 fx]
end

/-! ### == != -/
/-- scalars of these kinds -/
def scalD : D → D → Bool
  | .non, .non => true | .non, .int _ => true | .int _, .non => true | .non, .bl _ => true | .bl _, .non => true | .non, .str _ => true | .str _, .non => true
  | .int _, .int _ => true | .bl _, .bl _ => true | .str _, .str _ => true
  | .int _, .str _ => true | .str _, .int _ => true | .bl _, .str _ => true | .str _, .bl _ => true
  | _, _ => false
def pEq : List D → Option RV
  | [d, e] => if scalD d e || (shp d && shp e) then some ⟨.bl (eqv d e), false⟩ else none
  | _ => none
def pNe : List D → Option RV
  | [d, e] => if scalD d e || (shp d && shp e) then some ⟨.bl (!eqv d e), false⟩ else none
  | _ => none
section
variable {K : PySem.W.Frag} {mg : Str → Option Value} {O : As} {H : Hp}
theorem scal_rep {v w : V} {d e : D} (r : RepT K mg O H v d) (q : RepT K mg O H w e) (h : scalD d e = true) : scal v w = true ∧ decide (v = w) = eqv d e := by
  cases d <;> cases e <;> first
    | (cases (show false = true from h))
    | (first | cases rep_non r | cases rep_bl r | cases rep_int r | cases rep_str r) <;> (first | cases rep_non q | cases rep_bl q | cases rep_int q | cases rep_str q) <;>
      exact ⟨rfl, by first | rfl | (rw [dec_int]; rfl) | (rw [dec_bl]; rfl) | (rw [dec_str]; rfl) | simp [eqv]⟩
end
section
variable {X : Cx}
theorem po_eq (hu : X.A.units + 100 < cLine) : PrimO X (compareOp .Eq) pEq := fun pins s σ H x y v u Q I rx ry h => by
  obtain ⟨O, ds, r, ra, hp, q⟩ := h
  unfold pEq at hp
  split at hp
  · obtain ⟨x', y', e, r1, r2⟩ := ra2 ra
    cases e
    split at hp
    · rename_i hz
      cases hp
      rw [Bool.or_eq_true, Bool.and_eq_true] at hz
      rcases hz with hz | hz
      · obtain ⟨h1, h2⟩ := scal_rep r1 r2 hz
        exact op_eq pins s σ H _ _ v u Q I rx ry ⟨h1, by rw [h2]; exact q _ _ (.same (.bl _))⟩
      · refine op_eqD (by omega) pins s σ H _ _ v u Q I rx ry ⟨_, _, r1.dp (shp_plain hz.1), r2.dp (shp_plain hz.2), shp_shaped hz.1, shp_shaped hz.2, ?_⟩
        rw [eqv_toP _ _ (shp_plain hz.1) (shp_plain hz.2)]
        exact q _ _ (.same (.bl _))
    · cases hp
  · cases hp
theorem po_ne (hu : X.A.units + 100 < cLine) : PrimO X (compareOp .NotEq) pNe := fun pins s σ H x y v u Q I rx ry h => by
  obtain ⟨O, ds, r, ra, hp, q⟩ := h
  unfold pNe at hp
  split at hp
  · obtain ⟨x', y', e, r1, r2⟩ := ra2 ra
    cases e
    split at hp
    · rename_i hz
      cases hp
      rw [Bool.or_eq_true, Bool.and_eq_true] at hz
      rcases hz with hz | hz
      · obtain ⟨h1, h2⟩ := scal_rep r1 r2 hz
        exact op_ne pins s σ H _ _ v u Q I rx ry ⟨h1, by rw [h2]; exact q _ _ (.same (.bl _))⟩
      · refine op_neD (by omega) pins s σ H _ _ v u Q I rx ry ⟨_, _, r1.dp (shp_plain hz.1), r2.dp (shp_plain hz.2), shp_shaped hz.1, shp_shaped hz.2, ?_⟩
        rw [eqv_toP _ _ (shp_plain hz.1) (shp_plain hz.2)]
        exact q _ _ (.same (.bl _))
    · cases hp
  · cases hp
end

/-! ### order -/
def pLt : List D → Option RV
  | [.int i, .int j] => some ⟨.bl (decide (i < j)), false⟩
  | [.str x, .str y] => some ⟨.bl (decide (x.cps.toList < y.cps.toList)), false⟩
  | _ => none
def pLe : List D → Option RV
  | [.int i, .int j] => some ⟨.bl (decide (i ≤ j)), false⟩
  | [.str x, .str y] => some ⟨.bl (!decide (y.cps.toList < x.cps.toList)), false⟩
  | _ => none
def pGt : List D → Option RV
  | [.int i, .int j] => some ⟨.bl (decide (j < i)), false⟩
  | [.str x, .str y] => some ⟨.bl (decide (y.cps.toList < x.cps.toList)), false⟩
  | _ => none
def pGe : List D → Option RV
  | [.int i, .int j] => some ⟨.bl (decide (j ≤ i)), false⟩
  | [.str x, .str y] => some ⟨.bl (!decide (x.cps.toList < y.cps.toList)), false⟩
  | _ => none
section
variable {X : Cx}
theorem po_lt : PrimO X (compareOp .Lt) pLt := fun pins s σ H x y v u Q I rx ry h => by
  obtain ⟨O, ds, r, ra, hp, q⟩ := h
  unfold pLt at hp
  split at hp
  · obtain ⟨x', y', e, r1, r2⟩ := ra2 ra
    cases e; cases hp
    cases rep_int r1; cases rep_int r2
    exact op_lt pins s σ H _ _ v u Q I rx ry ⟨_, _, rfl, rfl, q _ _ (.same (.bl _))⟩
  · obtain ⟨x', y', e, r1, r2⟩ := ra2 ra
    cases e; cases hp
    cases rep_str r1; cases rep_str r2
    exact op_lt_str pins s σ H _ _ v u Q I rx ry ⟨_, _, rfl, rfl, q _ _ (.same (.bl _))⟩
  · cases hp
theorem po_le : PrimO X (compareOp .LtE) pLe := fun pins s σ H x y v u Q I rx ry h => by
  obtain ⟨O, ds, r, ra, hp, q⟩ := h
  unfold pLe at hp
  split at hp
  · obtain ⟨x', y', e, r1, r2⟩ := ra2 ra
    cases e; cases hp
    cases rep_int r1; cases rep_int r2
    exact op_le pins s σ H _ _ v u Q I rx ry ⟨_, _, rfl, rfl, q _ _ (.same (.bl _))⟩
  · obtain ⟨x', y', e, r1, r2⟩ := ra2 ra
    cases e; cases hp
    cases rep_str r1; cases rep_str r2
    exact op_le_str pins s σ H _ _ v u Q I rx ry ⟨_, _, rfl, rfl, q _ _ (.same (.bl _))⟩
  · cases hp
theorem po_gt : PrimO X (compareOp .Gt) pGt := fun pins s σ H x y v u Q I rx ry h => by
  obtain ⟨O, ds, r, ra, hp, q⟩ := h
  unfold pGt at hp
  split at hp
  · obtain ⟨x', y', e, r1, r2⟩ := ra2 ra
    cases e; cases hp
    cases rep_int r1; cases rep_int r2
    exact op_gt pins s σ H _ _ v u Q I rx ry ⟨_, _, rfl, rfl, q _ _ (.same (.bl _))⟩
  · obtain ⟨x', y', e, r1, r2⟩ := ra2 ra
    cases e; cases hp
    cases rep_str r1; cases rep_str r2
    exact op_gt_str pins s σ H _ _ v u Q I rx ry ⟨_, _, rfl, rfl, q _ _ (.same (.bl _))⟩
  · cases hp
theorem po_ge : PrimO X (compareOp .GtE) pGe := fun pins s σ H x y v u Q I rx ry h => by
  obtain ⟨O, ds, r, ra, hp, q⟩ := h
  unfold pGe at hp
  split at hp
  · obtain ⟨x', y', e, r1, r2⟩ := ra2 ra
    cases e; cases hp
    cases rep_int r1; cases rep_int r2
    exact op_ge pins s σ H _ _ v u Q I rx ry ⟨_, _, rfl, rfl, q _ _ (.same (.bl _))⟩
  · obtain ⟨x', y', e, r1, r2⟩ := ra2 ra
    cases e; cases hp
    cases rep_str r1; cases rep_str r2
    exact op_ge_str pins s σ H _ _ v u Q I rx ry ⟨_, _, rfl, rfl, q _ _ (.same (.bl _))⟩
  · cases hp
end

/-! ### in, not in -/
/-- x is in c -/
def inD (x : D) : D → Option Bool
  | .lst ds => if ((flatD x).isSome && flatDs ds) || (shp x && shp (.lst ds)) then some (ds.any fun y => eqv y x) else none
  | .tup ds => if ((flatD x).isSome && flatDs ds) || (shp x && shp (.tup ds)) then some (ds.any fun y => eqv y x) else none
  | .str z => match x with
    | .str ⟨⟨[c]⟩⟩ => some (decide (c ∈ z.cps.toList))
    | _ => none
  | _ => none
def pIn : List D → Option RV
  | [x, c] => (inD x c).map fun b => ⟨.bl b, false⟩
  | _ => none
def pNotIn : List D → Option RV
  | [x, c] => (inD x c).map fun b => ⟨.bl (!b), false⟩
  | _ => none
section
variable {X : Cx}
theorem in_core (hu : X.A.units + 100 < cLine) {pins : List (Addr × Obj)} {s : Shared} {σ : L2.St} {H : Hp} {x y : V} {v u : Value} {Q : VK} {O : As} {d c : D} {b : Bool} (I : Inv X pins σ H s) (rx : RelV x v) (ry : RelV y u)
    (r1 : RepT X.K X.mg O H x d) (r2 : RepT X.K X.mg O H y c) (hb : inD d c = some b) :
    (Q (.bl b) H → wpAny (model X.prog X.w) X.A (compareOp .In v u) (EP X pins σ Q) X.xe s) ∧ (Q (.bl (!b)) H → wpAny (model X.prog X.w) X.A (compareOp .NotIn v u) (EP X pins σ Q) X.xe s) := by
  cases c with
  | lst ds =>
    simp only [inD] at hb
    split at hb
    · rename_i hz
      cases hb
      rw [Bool.or_eq_true, Bool.and_eq_true, Bool.and_eq_true] at hz
      rcases hz with ⟨f1, f2⟩ | ⟨z1, z2⟩
      · obtain ⟨a, xs, rfl, h2, t⟩ := rep_lst r2
        obtain ⟨w, e⟩ := Option.isSome_iff_exists.mp f1
        have e1 : inV x xs = ds.any fun y => eqv y d := flats_any r1 f1 t f2
        refine ⟨fun q => op_in_seq pins s σ H _ _ v u Q I rx ry ⟨a, xs, rfl, .inl h2, (flat_rep r1 e).2, flats_rep t f2, ?_⟩, fun q => op_notIn_seq pins s σ H _ _ v u Q I rx ry ⟨a, xs, rfl, .inl h2, (flat_rep r1 e).2, flats_rep t f2, ?_⟩⟩
        · rw [e1]; exact q
        · rw [e1]; exact q
      · have hp : plains ds = true := by have := shp_plain z2; simpa [plain] using this
        have e1 := any_toP d (shp_plain z1) ds hp
        refine ⟨fun q => op_inD (by omega) pins s σ H _ _ v u Q I rx ry ⟨toP d, toPs ds, r1.dp (shp_plain z1), r2.dp (shp_plain z2), shp_shaped z1, shp_shaped z2, ?_⟩, fun q => op_notInD (by omega) pins s σ H _ _ v u Q I rx ry ⟨toP d, toPs ds, r1.dp (shp_plain z1), r2.dp (shp_plain z2), shp_shaped z1, shp_shaped z2, ?_⟩⟩
        · rw [e1]; exact q
        · rw [e1]; exact q
    · cases hb
  | tup ds =>
    simp only [inD] at hb
    split at hb
    · rename_i hz
      cases hb
      rw [Bool.or_eq_true, Bool.and_eq_true, Bool.and_eq_true] at hz
      rcases hz with ⟨f1, f2⟩ | ⟨z1, z2⟩
      · obtain ⟨a, xs, rfl, h2, t⟩ := rep_tup r2
        obtain ⟨w, e⟩ := Option.isSome_iff_exists.mp f1
        have e1 : inV x xs = ds.any fun y => eqv y d := flats_any r1 f1 t f2
        refine ⟨fun q => op_in_seq pins s σ H _ _ v u Q I rx ry ⟨a, xs, rfl, .inr h2, (flat_rep r1 e).2, flats_rep t f2, ?_⟩, fun q => op_notIn_seq pins s σ H _ _ v u Q I rx ry ⟨a, xs, rfl, .inr h2, (flat_rep r1 e).2, flats_rep t f2, ?_⟩⟩
        · rw [e1]; exact q
        · rw [e1]; exact q
      · have hp : plains ds = true := by have := shp_plain z2; simpa [plain] using this
        have e1 := any_toP d (shp_plain z1) ds hp
        obtain ⟨as, q1⟩ := Dp.reads I _ x v (r1.dp (shp_plain z1)) rx
        obtain ⟨bs, q2⟩ := Dp.reads I _ y u (r2.dp (shp_plain z2)) ry
        have k1 : PyData.canLayAll0 (toPs ds) = true := SeqAt.canLay_of_shaped (shp_shaped z2)
        have k2 := SeqAt.depth_of_shaped (shp_shaped z1)
        have k3 : X.A.units + 1 + min (PyData.depthAll (toPs ds)) (toP d).depth < cLine := by have := Nat.min_le_right (PyData.depthAll (toPs ds)) (toP d).depth; omega
        refine ⟨fun q => SeqAt.in_tuple_reads q2 q1 k1 (SeqAt.canLay_of_shaped (shp_shaped z1)) k3 ⟨.bl _, H, I, rfl, ?_⟩, fun q => SeqAt.notIn_tuple_reads q2 q1 k1 (SeqAt.canLay_of_shaped (shp_shaped z1)) k3 ⟨.bl _, H, I, rfl, ?_⟩⟩
        · rw [e1]; exact q
        · rw [e1]; exact q
    · cases hb
  | str z =>
    simp only [inD] at hb
    split at hb
    · cases hb
      cases rep_str r1; cases rep_str r2
      exact ⟨fun q => op_in_sign pins s σ H _ _ v u Q I rx ry ⟨_, _, rfl, rfl, q⟩, fun q => op_notIn_sign pins s σ H _ _ v u Q I rx ry ⟨_, _, rfl, rfl, q⟩⟩
    · cases hb
  | _ => cases hb
theorem po_in (hu : X.A.units + 100 < cLine) : PrimO X (compareOp .In) pIn := fun pins s σ H x y v u Q I rx ry h => by
  obtain ⟨O, ds, r, ra, hp, q⟩ := h
  unfold pIn at hp
  split at hp
  · obtain ⟨x', y', e, r1, r2⟩ := ra2 ra
    cases e
    obtain ⟨b, hb, rfl⟩ := Option.map_eq_some_iff.mp hp
    exact (in_core hu I rx ry r1 r2 hb).1 (q _ _ (.same (.bl _)))
  · cases hp
theorem po_notIn (hu : X.A.units + 100 < cLine) : PrimO X (compareOp .NotIn) pNotIn := fun pins s σ H x y v u Q I rx ry h => by
  obtain ⟨O, ds, r, ra, hp, q⟩ := h
  unfold pNotIn at hp
  split at hp
  · obtain ⟨x', y', e, r1, r2⟩ := ra2 ra
    cases e
    obtain ⟨b, hb, rfl⟩ := Option.map_eq_some_iff.mp hp
    exact (in_core hu I rx ry r1 r2 hb).2 (q _ _ (.same (.bl _)))
  · cases hp
end

/-! ### is None -/
def isNon : D → Bool
  | .non => true
  | _ => false
def pIsN : List D → Option RV
  | [x, .non] => some ⟨.bl (isNon x), false⟩
  | _ => none
def pNotN : List D → Option RV
  | [x, .non] => some ⟨.bl (!isNon x), false⟩
  | _ => none
section
variable {X : Cx}
theorem rep_isNon {K : PySem.W.Frag} {mg : Str → Option Value} {O : As} {H : Hp} {x : V} {d : D} (r : RepT K mg O H x d) : decide (x = .non) = isNon d := by
  cases r with
  | rep r => cases r <;> simp [isNon]
  | own c => obtain ⟨xs, ds, rfl, _⟩ := c; simp [isNon]
theorem po_isN : PrimO X (compareOp .Is) pIsN := fun pins s σ H x y v u Q I rx ry h => by
  obtain ⟨O, ds, r, ra, hp, q⟩ := h
  unfold pIsN at hp
  split at hp
  · obtain ⟨x', y', e, r1, r2⟩ := ra2 ra
    cases e; cases hp
    cases rep_non r2
    exact op_isN pins s σ H _ _ v u Q I rx ry ⟨rfl, by rw [rep_isNon r1]; exact q _ _ (.same (.bl _))⟩
  · cases hp
theorem po_notN : PrimO X (compareOp .IsNot) pNotN := fun pins s σ H x y v u Q I rx ry h => by
  obtain ⟨O, ds, r, ra, hp, q⟩ := h
  unfold pNotN at hp
  split at hp
  · obtain ⟨x', y', e, r1, r2⟩ := ra2 ra
    cases e; cases hp
    cases rep_non r2
    exact op_notN pins s σ H _ _ v u Q I rx ry ⟨rfl, by rw [rep_isNon r1]; exact q _ _ (.same (.bl _))⟩
  · cases hp
end
end Wt
set_option autoImplicit false
set_option Elab.async false
set_option linter.all false
set_option maxRecDepth 100000
/-! Wt.Prim3: subscripts, slices, calls of built-ins. -/
namespace Wt
open PySem PySem.Spec PyProof.Rows L2

/-! ### x[i] -/
def pIx : List D → Option RV
  | [.lst ds, .int i] => (atI ds i).map fun d => ⟨d, false⟩
  | [.tup ds, .int i] => (atI ds i).map fun d => ⟨d, false⟩
  | [.str z, .int i] => if z.length ≤ sizeLine then (atI z.cps.toList i).map fun c => ⟨.str ⟨#[c]⟩, false⟩ else none
  | _ => none
section
variable {K : PySem.W.Frag} {mg : Str → Option Value} {O : As} {H : Hp}
theorem RepA.atI {vs : List V} {ds : List D} {i : Int} {d : D} (t : RepA K mg O H vs ds) (h : L2.atI ds i = some d) : ∃ v, L2.atI vs i = some v ∧ Rep K mg O H v d := by
  unfold L2.atI at h ⊢
  rw [t.length]
  cases e : ixN ds.length i with
  | none => rw [e] at h; cases h
  | some j =>
    rw [e] at h
    exact t.get h
end
section
variable {X : Cx} {a b : Expr} {pos p2 : Pos} {A B : Arg}
theorem px_ix : IxR X fun x y H Q => PrimR X.K X.mg pIx [x, y] H Q := fun value slice pins s σ H x y v u Q I rx ry h hs => by
  obtain ⟨O, ds, r, ra, hp, q⟩ := h
  unfold pIx at hp
  split at hp
  · obtain ⟨x', y', e, r1, r2⟩ := ra2 ra
    cases e
    obtain ⟨d, hd, rfl⟩ := Option.map_eq_some_iff.mp hp
    cases rep_int r2
    obtain ⟨a, xs, rfl, h1, t1⟩ := rep_lst r1
    obtain ⟨w, hw, rw'⟩ := t1.atI hd
    exact ix_list value slice pins s σ H _ _ v u Q I rx ry ⟨a, xs, _, w, rfl, rfl, h1, hw, q _ _ (.same rw')⟩ hs
  · obtain ⟨x', y', e, r1, r2⟩ := ra2 ra
    cases e
    obtain ⟨d, hd, rfl⟩ := Option.map_eq_some_iff.mp hp
    cases rep_int r2
    obtain ⟨a, xs, rfl, h1, t1⟩ := rep_tup r1
    obtain ⟨w, hw, rw'⟩ := t1.atI hd
    exact ix_tup value slice pins s σ H _ _ v u Q I rx ry ⟨a, xs, _, w, rfl, rfl, h1, hw, q _ _ (.same rw')⟩ hs
  · obtain ⟨x', y', e, r1, r2⟩ := ra2 ra
    cases e
    split at hp
    · rename_i hz
      obtain ⟨c, hd, rfl⟩ := Option.map_eq_some_iff.mp hp
      cases rep_int r2
      cases rep_str r1
      exact ix_str value slice pins s σ H _ _ v u Q I rx ry ⟨_, _, c, rfl, rfl, hz, hd, q _ _ (.same (.str _))⟩ hs
    · cases hp
  · cases hp
theorem de_ix (ha : DP X a A) (hb : DP X b B) (hs : PlainIx b := by intro _ _; rfl) : DE X (.Subscript a b pos) (fPrim pIx [A, B]) := fun Γ => peM (pe_ix px_ix (ha Γ) (hb Γ) hs) fun _ _ _ h => prim_two h
end

/-! ### x[i:j] -/
def cutD (xs : List D) (lo hi : Option Int) : List D := (xs.drop (HT.sIx xs.length 0 lo)).take (HT.sIx xs.length xs.length hi - HT.sIx xs.length 0 lo)
def slD (lo hi : Option Int) : D → Option RV
  | .lst ds => some ⟨.lst (cutD ds lo hi), true⟩
  | .tup ds => some ⟨.tup (cutD ds lo hi), false⟩
  | .str z => if z.length ≤ sizeLine then some ⟨.str (cutS z lo hi), false⟩ else none
  | _ => none
/-- a bound: none, or an int -/
inductive Bd where
  | no
  | at (A : Arg)
def fBd : Bd → Stt → R (Option Int)
  | .no, σ => .ok none σ
  | .at A, σ => (fArg A σ).bind fun p σ1 => match p.res σ1 with
    | some (.int i) => .ok (some i) σ1
    | _ => .bad
def fSl (A : Arg) (lo hi : Bd) : Ex := fun σ => (fArg A σ).bind fun p σ1 => (fBd lo σ1).bind fun l σ2 => (fBd hi σ2).bind fun u σ3 => match p.res σ3 with
  | some d => match slD l u d with
    | some r => .ok r σ3
    | none => .bad
  | none => .bad
/-- the reading of a bound -/
def rdB (K : PySem.W.Frag) (mg : Str → Option Value) (Γ : Fm) (B : Bd) : TO := fun σ H Q => ∃ τ, SOk K mg Γ τ σ H ∧ match fBd B τ with
  | .ok i τ' => ∀ H', Step σ τ H σ τ' H' → SOk K mg Γ τ' σ H' → Q i H'
  | .ex e τ' => Γ.xw e τ'
  | .bad => False
def DB (X : Cx) (o : Option Expr) (B : Bd) : Prop := ∀ Γ, PO X o (rdB X.K X.mg Γ B)
section
variable {X : Cx} {a e : Expr} {o lo hi : Option Expr} {pos p2 : Pos} {A : Arg} {L U : Bd} {K : PySem.W.Frag} {mg : Str → Option Value} {Γ : Fm} {τ : Stt} {σ : L2.St} {H H' : Hp} {O O' : As}
theorem poM {t t' : TO} (h : PO X o t) (m : ∀ σ H Q, t' σ H Q → t σ H Q) : PO X o t' := ⟨fun pins s σ H Q I q => h.run pins s σ H Q I (m _ _ _ q)⟩
theorem db_no : DB X none .no := fun Γ => poM po_none fun σ H Q h => by
  obtain ⟨τ, ok, h⟩ := h
  exact h H .refl ok
theorem db_at (h : DP X e A) : DB X (some e) (.at A) := fun Γ => poM (po_some (h Γ)) fun σ H Q hq => by
  obtain ⟨τ, ok, hq⟩ := hq
  refine ⟨τ, ok, ?_⟩
  simp only [fBd] at hq
  cases e1 : fArg A τ with
  | ex e' τ' => rw [e1] at hq; exact hq
  | bad => rw [e1] at hq; exact hq
  | ok p τ' =>
    rw [e1] at hq
    intro v H' s1 ok1 pk
    simp only [R.bind] at hq
    cases e2 : p.res τ' with
    | none => rw [e2] at hq; exact hq.elim
    | some d =>
      cases d with
      | int i =>
        rw [e2] at hq
        have := rep_int (pk.res ok1 e2)
        exact ⟨i, this, hq H' s1 ok1⟩
      | _ => rw [e2] at hq; exact hq.elim
theorem sIx_map {vs : List V} {ds : List D} (t : RepA K mg O H vs ds) (lo hi : Option Int) : RepA K mg O H (cutV vs lo hi) (cutD ds lo hi) := by
  unfold cutV cutD
  rw [t.length]
  exact (t.drop _).take _
theorem ps_sl {P : D → Option Int → Option Int → Hp → VK → V → Prop} : SlR X fun x lo hi H Q => ∃ O d r, RepT X.K X.mg O H x d ∧ slD lo hi d = some r ∧ ∀ v H', PAl X.K X.mg O H r v H' → Q v H' := by
  intro pins s σ H x v vl vu lo hi sl Q I rx hs pl pu h
  obtain ⟨O, d, r, ra, hd, q⟩ := h
  cases d with
  | lst ds =>
    cases hd
    obtain ⟨a, xs, rfl, h1, t1⟩ := rep_lst ra
    exact sl_list pins s σ H _ v vl vu lo hi sl Q I rx hs pl pu ⟨a, xs, rfl, h1, fun p hp => q _ _ (.new_lst hp (sIx_map t1 lo hi))⟩
  | tup ds =>
    cases hd
    obtain ⟨a, xs, rfl, h1, t1⟩ := rep_tup ra
    refine sl_tupA pins s σ H _ v vl vu lo hi sl Q I rx hs pl pu ⟨a, xs, rfl, h1, fun hw => ?_, fun _ p hp => q _ _ (.new_tup hp (sIx_map t1 lo hi))⟩
    have e : cutD ds lo hi = ds := by
      unfold cutD
      rw [← t1.length, hw.1, hw.2, List.drop_zero, Nat.sub_zero, t1.length, List.take_length]
    rw [e] at q
    exact q _ _ (.same (.tup h1 t1))
  | str z =>
    simp only [slD] at hd
    split at hd
    · rename_i hz
      cases hd
      cases rep_str ra
      exact sl_str pins s σ H _ v vl vu lo hi sl Q I rx hs pl pu ⟨z, rfl, hz, q _ _ (.same (.str _))⟩
    · cases hd
  | _ => cases hd
theorem de_sl (ha : DP X a A) (hl : DB X lo L) (hu : DB X hi U) : DE X (.Subscript a (.Slice lo hi none p2) pos) (fSl A L U) := fun Γ => peM (pe_slice (ps_sl (P := fun _ _ _ _ _ _ => True)) (ha Γ) (hl Γ) (hu Γ)) fun σ H Q h => by
  obtain ⟨τ, ok, h⟩ := h
  refine ⟨τ, ok, ?_⟩
  simp only [fSl] at h
  cases e1 : fArg A τ with
  | ex e' τ' => rw [e1] at h; exact h
  | bad => rw [e1] at h; exact h
  | ok p τ1 =>
    rw [e1] at h
    intro x H1 s1 ok1 k1
    refine ⟨τ1, ok1, ?_⟩
    simp only [R.bind] at h
    cases e2 : fBd L τ1 with
    | ex e' τ' => rw [e2] at h; exact h
    | bad => rw [e2] at h; exact h
    | ok l τ2 =>
      rw [e2] at h
      intro H2 s2 ok2
      refine ⟨τ2, ok2, ?_⟩
      simp only [R.bind] at h
      cases e3 : fBd U τ2 with
      | ex e' τ' => rw [e3] at h; exact h
      | bad => rw [e3] at h; exact h
      | ok u τ3 =>
        rw [e3] at h
        intro H3 s3 ok3
        simp only [R.bind] at h
        cases e4 : p.res τ3 with
        | none => rw [e4] at h; exact h.elim
        | some d =>
          rw [e4] at h
          cases e5 : slD l u d with
          | none => simp only [e5] at h; exact h.elim
          | some r =>
            simp only [e5] at h
            exact ⟨_, d, r, ((k1.stay (s2.stay ok1)).stay (s3.stay ok2)).res ok3 e4, e5, fun v H' al => h v H' (al.post ((s1.trans s2).trans s3) ok3)⟩
end

/-! ### built-in functions and types -/
def pLen : List D → Option RV
  | [.lst ds] => some ⟨.int ds.length, false⟩
  | [.tup ds] => some ⟨.int ds.length, false⟩
  | [.str z] => if z.length ≤ sizeLine then some ⟨.int z.length, false⟩ else none
  | _ => none
def pAbs : List D → Option RV
  | [.int i] => some ⟨.int (if i < 0 then -i else i), false⟩
  | _ => none
def pInt : List D → Option RV
  | [.int i] => some ⟨.int i, false⟩
  | [.bl b] => some ⟨.int (if b then 1 else 0), false⟩
  | _ => none
def pList : List D → Option RV
  | [.lst ds] => some ⟨.lst ds, true⟩
  | [.tup ds] => some ⟨.lst ds, true⟩
  | _ => none
def pTuple : List D → Option RV
  | [.lst ds] => some ⟨.tup ds, false⟩
  | [.tup ds] => some ⟨.tup ds, false⟩
  | _ => none
def pSum : List D → Option RV
  | [.lst ds] => (intsOf ds).map fun ns => ⟨.int ns.sum, false⟩
  | _ => none
def pMin : List D → Option RV
  | [.int i, .int j] => some ⟨.int (if j < i then j else i), false⟩
  | _ => none
def pMax : List D → Option RV
  | [.int i, .int j] => some ⟨.int (if j > i then j else i), false⟩
  | _ => none
def pAll : List D → Option RV
  | [.lst ds] => (blsOf ds).map fun ns => ⟨.bl (ns.all id), false⟩
  | _ => none
def pAny : List D → Option RV
  | [.lst ds] => (blsOf ds).map fun ns => ⟨.bl (ns.any id), false⟩
  | _ => none
def pDivmod : List D → Option RV
  | [.int i, .int j] => if 0 < j ∧ j < 1073741824 then some ⟨.tup [.int (i / j), .int (i % j)], false⟩ else none
  | _ => none
section
variable {X : Cx}
theorem pc_len : PrimC X (.builtin "len") pLen := fun pins s σ H vs us Q I rv h => by
  obtain ⟨O, ds, r, ra, hp, q⟩ := h
  unfold pLen at hp
  split at hp
  · obtain ⟨x, rfl, r1⟩ := ra1 ra
    cases hp
    obtain ⟨a, xs, rfl, h1, t1⟩ := rep_lst r1
    exact call_len_seq pins s σ H _ us Q I rv ⟨a, xs, rfl, .inl h1, by rw [t1.length]; exact q _ _ (.same (.int _))⟩
  · obtain ⟨x, rfl, r1⟩ := ra1 ra
    cases hp
    obtain ⟨a, xs, rfl, h1, t1⟩ := rep_tup r1
    exact call_len_seq pins s σ H _ us Q I rv ⟨a, xs, rfl, .inr h1, by rw [t1.length]; exact q _ _ (.same (.int _))⟩
  · obtain ⟨x, rfl, r1⟩ := ra1 ra
    split at hp
    · rename_i hz
      cases hp
      cases rep_str r1
      exact call_len_str pins s σ H _ us Q I rv ⟨_, rfl, hz, q _ _ (.same (.int _))⟩
    · cases hp
  · cases hp
theorem pc_abs : PrimC X (.builtin "abs") pAbs := fun pins s σ H vs us Q I rv h => by
  obtain ⟨O, ds, r, ra, hp, q⟩ := h
  unfold pAbs at hp
  split at hp
  · obtain ⟨x, rfl, r1⟩ := ra1 ra
    cases hp
    cases rep_int r1
    exact call_abs pins s σ H _ us Q I rv ⟨_, rfl, q _ _ (.same (.int _))⟩
  · cases hp
theorem pc_int : PrimC X (.type "int") pInt := fun pins s σ H vs us Q I rv h => by
  obtain ⟨O, ds, r, ra, hp, q⟩ := h
  unfold pInt at hp
  split at hp
  · obtain ⟨x, rfl, r1⟩ := ra1 ra
    cases hp
    cases rep_int r1
    exact call_int1 pins s σ H _ us Q I rv (.inl ⟨_, rfl, q _ _ (.same (.int _))⟩)
  · obtain ⟨x, rfl, r1⟩ := ra1 ra
    cases hp
    cases rep_bl r1
    exact call_int1 pins s σ H _ us Q I rv (.inr ⟨_, rfl, q _ _ (.same (.int _))⟩)
  · cases hp
theorem pc_list : PrimC X (.type "list") pList := fun pins s σ H vs us Q I rv h => by
  obtain ⟨O, ds, r, ra, hp, q⟩ := h
  unfold pList at hp
  split at hp
  · obtain ⟨x, rfl, r1⟩ := ra1 ra
    cases hp
    obtain ⟨a, xs, rfl, h1, t1⟩ := rep_lst r1
    exact call_list_of pins s σ H _ us Q I rv ⟨a, xs, rfl, .inl h1, fun l hl => q _ _ (.new_lst hl t1)⟩
  · obtain ⟨x, rfl, r1⟩ := ra1 ra
    cases hp
    obtain ⟨a, xs, rfl, h1, t1⟩ := rep_tup r1
    exact call_list_of pins s σ H _ us Q I rv ⟨a, xs, rfl, .inr h1, fun l hl => q _ _ (.new_lst hl t1)⟩
  · cases hp
theorem pc_tuple : PrimC X (.type "tuple") pTuple := fun pins s σ H vs us Q I rv h => by
  obtain ⟨O, ds, r, ra, hp, q⟩ := h
  unfold pTuple at hp
  split at hp
  · obtain ⟨x, rfl, r1⟩ := ra1 ra
    cases hp
    obtain ⟨a, xs, rfl, h1, t1⟩ := rep_lst r1
    exact call_tuple_of pins s σ H _ us Q I rv ⟨a, xs, rfl, .inl ⟨h1, fun l hl => q _ _ (.new_tup hl t1)⟩⟩
  · obtain ⟨x, rfl, r1⟩ := ra1 ra
    cases hp
    obtain ⟨a, xs, rfl, h1, t1⟩ := rep_tup r1
    exact call_tuple_of pins s σ H _ us Q I rv ⟨a, xs, rfl, .inr ⟨h1, q _ _ (.same (.tup h1 t1))⟩⟩
  · cases hp
theorem pc_sum (hc : X.calm = true) : PrimC X (.builtin "sum") pSum := fun pins s σ H vs us Q I rv h => by
  obtain ⟨O, ds, r, ra, hp, q⟩ := h
  unfold pSum at hp
  split at hp
  · obtain ⟨x, rfl, r1⟩ := ra1 ra
    obtain ⟨ns, hn, rfl⟩ := Option.map_eq_some_iff.mp hp
    obtain ⟨a, xs, rfl, h1, t1⟩ := rep_lst r1
    rw [intsOf_eq hn] at t1
    rw [t1.ints] at h1
    exact cr_sum hc pins s σ H _ us Q I rv ⟨a, ns, rfl, h1, q _ _ (.same (.int _))⟩
  · cases hp
theorem pc_min (hc : X.calm = true) : PrimC X (.builtin "min") pMin := fun pins s σ H vs us Q I rv h => by
  obtain ⟨O, ds, r, ra, hp, q⟩ := h
  unfold pMin at hp
  split at hp
  · obtain ⟨x, y, rfl, r1, r2⟩ := ra2 ra
    cases hp
    cases rep_int r1; cases rep_int r2
    exact call_min2 hc pins s σ H _ us Q I rv ⟨_, _, rfl, q _ _ (.same (.int _))⟩
  · cases hp
theorem pc_max (hc : X.calm = true) : PrimC X (.builtin "max") pMax := fun pins s σ H vs us Q I rv h => by
  obtain ⟨O, ds, r, ra, hp, q⟩ := h
  unfold pMax at hp
  split at hp
  · obtain ⟨x, y, rfl, r1, r2⟩ := ra2 ra
    cases hp
    cases rep_int r1; cases rep_int r2
    exact call_max2 hc pins s σ H _ us Q I rv ⟨_, _, rfl, q _ _ (.same (.int _))⟩
  · cases hp
theorem pc_all (hc : X.calm = true) : PrimC X (.builtin "all") pAll := fun pins s σ H vs us Q I rv h => by
  obtain ⟨O, ds, r, ra, hp, q⟩ := h
  unfold pAll at hp
  split at hp
  · obtain ⟨x, rfl, r1⟩ := ra1 ra
    obtain ⟨ns, hn, rfl⟩ := Option.map_eq_some_iff.mp hp
    obtain ⟨a, xs, rfl, h1, t1⟩ := rep_lst r1
    rw [blsOf_eq hn] at t1
    rw [t1.bls] at h1
    exact cr_all hc pins s σ H _ us Q I rv ⟨a, ns, rfl, h1, q _ _ (.same (.bl _))⟩
  · cases hp
theorem pc_any (hc : X.calm = true) : PrimC X (.builtin "any") pAny := fun pins s σ H vs us Q I rv h => by
  obtain ⟨O, ds, r, ra, hp, q⟩ := h
  unfold pAny at hp
  split at hp
  · obtain ⟨x, rfl, r1⟩ := ra1 ra
    obtain ⟨ns, hn, rfl⟩ := Option.map_eq_some_iff.mp hp
    obtain ⟨a, xs, rfl, h1, t1⟩ := rep_lst r1
    rw [blsOf_eq hn] at t1
    rw [t1.bls] at h1
    exact cr_any hc pins s σ H _ us Q I rv ⟨a, ns, rfl, h1, q _ _ (.same (.bl _))⟩
  · cases hp
theorem pc_divmod : PrimC X (.builtin "divmod") pDivmod := fun pins s σ H vs us Q I rv h => by
  obtain ⟨O, ds, r, ra, hp, q⟩ := h
  unfold pDivmod at hp
  split at hp
  · obtain ⟨x, y, rfl, r1, r2⟩ := ra2 ra
    split at hp
    · rename_i hz
      cases hp
      cases rep_int r1; cases rep_int r2
      exact call_divmod pins s σ H _ us Q I rv ⟨_, _, rfl, hz, fun p hp => q _ _ (.new_tup hp (.cons (.int _) (.cons (.int _) .nil)))⟩
    · cases hp
  · cases hp
end

/-! ### isinstance -/
def tyD : D → Option String
  | .non => some "NoneType"
  | .bl _ => some "bool"
  | .int _ => some "int"
  | .str _ => some "str"
  | .tup _ => some "tuple"
  | .lst _ => some "list"
  | .dct _ => some "dict"
  | _ => none
def isB (t T : String) : Bool := t == T || (t == "bool" && T == "int")
def tyNames : List String := ["bool", "int", "str", "tuple", "list", "dict"]
def isiD (Ts : List String) (d : D) : Option Bool := if Ts.all (tyNames.contains ·) then (tyD d).map fun t => Ts.any (isB t) else none
def pIsi (Ts : List String) : List D → Option RV
  | [d] => (isiD Ts d).map fun b => ⟨.bl b, false⟩
  | _ => none
theorem kitB_all : ∀ t ∈ ("NoneType" :: tyNames), ∀ T ∈ tyNames, kitB t T = some (isB t T) := by decide +kernel
section
variable {K : PySem.W.Frag} {mg : Str → Option Value} {O : As} {H : Hp} {x : V} {d : D} {t : String}
theorem tyD_mem (h : tyD d = some t) : t ∈ ("NoneType" :: tyNames) := by
  cases d <;> simp only [tyD, Option.some.injEq, reduceCtorEq] at h <;> subst h <;> decide
theorem tyX_sqT {a : Addr} {xs : List V} (h : SqT K H a xs) : TyX K H (.ref a) (.type "tuple") := by
  rcases h with (h | ⟨o, h⟩) | ⟨o, its, n, h, c, _⟩
  · exact .base (.tup h)
  · exact .fTuple h
  · exact .kTuple h c
theorem tyX_sqL {a : Addr} {xs : List V} (h : SqL K H a xs) : TyX K H (.ref a) (.type "list") := by
  rcases h with (h | ⟨o, h⟩) | ⟨o, its, n, h, c, _⟩
  · exact .base (.lst h)
  · exact .base (.frz h)
  · exact .kList h c
theorem rep_ty (r : RepT K mg O H x d) (h : tyD d = some t) : TyX K H x (.type t) := by
  cases d with
  | non => cases h; cases rep_non r; exact .base .non
  | bl => cases h; cases rep_bl r; exact .base (.bl _)
  | int => cases h; cases rep_int r; exact .base (.int _)
  | str => cases h; cases rep_str r; exact .base (.str _)
  | tup ds => cases h; obtain ⟨a, xs, rfl, h1, _⟩ := rep_tup r; exact tyX_sqT h1
  | lst ds => cases h; obtain ⟨a, xs, rfl, h1, _⟩ := rep_lst r; exact tyX_sqL h1
  | dct ds =>
    cases h
    cases r with
    | rep r =>
      cases r with
      | dct n h k r =>
        rcases h with h | ⟨o, h⟩
        · exact .base (.dK h)
        · exact .fDict h
    | own c => obtain ⟨_, _, e, _⟩ := c; cases e
  | _ => cases h
theorem TyX.keep {H' : Hp} {u : Value} (k : ∀ a o, H a = some o → H' a = some o) (h : TyX K H x u) : TyX K H' x u := by
  cases h with
  | base b =>
    cases b with
    | non => exact .base .non
    | bl _ => exact .base (.bl _)
    | int _ => exact .base (.int _)
    | str _ => exact .base (.str _)
    | flt _ => exact .base (.flt _)
    | lst e => exact .base (.lst (k _ _ e))
    | frz e => exact .base (.frz (k _ _ e))
    | tup e => exact .base (.tup (k _ _ e))
    | dK e => exact .base (.dK (k _ _ e))
    | dT e => exact .base (.dT (k _ _ e))
    | ins e cl ha hn htk hm => exact .base (.ins (k _ _ e) cl ha hn htk hm)
  | byt _ => exact .byt _
  | set e => exact .set (k _ _ e)
  | kList e c => exact .kList e c
  | kTuple e c => exact .kTuple e c
  | kDict e c => exact .kDict e c
  | fTuple e => exact .fTuple (k _ _ e)
  | fDict e => exact .fDict (k _ _ e)
theorem isi_one {T : String} {b : Bool} (h : isiD [T] d = some b) : ∃ t, tyD d = some t ∧ PySem.W.kitOne K (.type t) (.type T) = some b := by
  unfold isiD at h
  split at h
  · rename_i hT
    obtain ⟨t, ht, rfl⟩ := Option.map_eq_some_iff.mp h
    have hm : T ∈ tyNames := by simpa using hT
    refine ⟨t, ht, kit_ty ?_⟩
    rw [kitB_all t (tyD_mem ht) T hm]
    simp
  · cases h
theorem kitAny_all {t : String} (ht : t ∈ ("NoneType" :: tyNames)) : ∀ Ts : List String, Ts.all (tyNames.contains ·) = true → PySem.W.kitAny K (.type t) (Ts.map Value.type) = some (Ts.any (isB t))
  | [], _ => kitAny_nil
  | T :: Ts, h => by
    rw [List.all_cons, Bool.and_eq_true] at h
    have hm : T ∈ tyNames := by simpa using h.1
    rw [List.map_cons, List.any_cons]
    refine kitAny_cons (kit_ty (kitB_all t ht T hm)) (fun e => ?_) fun e => by rw [e]; rfl
    rw [kitAny_all ht Ts h.2, e]; rfl
theorem cls_all : ∀ Ts : List String, Paired ClsV (Ts.map V.ty) (Ts.map Value.type)
  | [] => .nil
  | T :: Ts => .cons (.ty T) (cls_all Ts)
end
section
variable {X : Cx} {e : Expr} {es : List Expr} {A : Arg} {p pos : Pos} {T : Str}
theorem pks_one {K : PySem.W.Frag} {mg : Str → Option Value} {Γ : Fm} {q : List D → Option RV} {σ : L2.St} {H : Hp} {Q : VK} (h : rd K mg Γ (fPrim q [A]) σ H Q) : rdP K mg Γ A σ H fun x H1 => PrimR K mg q [x] H1 Q := prim_one h
/-- isinstance(e, T) -/
theorem de_isi {Tn : String} {tp : Pos} (ha : DP X e A) (hg : Gl X "isinstance") (hm : X.mg "isinstance" = none) (hgT : Gl X T) (hmT : X.mg T = none) (hv : bootBuiltins T = some (.type Tn)) (hn : T ≠ "__name__" := by decide) (hdb : (T == ("__debug__" : Str)) = false := by decide)
    (he : starEach [e, .Name T tp] X.env = (false, eval e X.env) :: starEach [.Name T tp] X.env := by rfl) (hpl : (backTo pos (starEach [.Name T tp] X.env)).any (·.1) = false := by rfl)
    (he2 : starEach [.Name T tp] X.env = (false, eval (.Name T tp) X.env) :: starEach [] X.env := by rfl) :
    DE X (.Call (.Name "isinstance" p) [e, .Name T tp] [] pos) (fPrim (pIsi [Tn]) [A]) := fun Γ =>
  peM (pe_callB call_isi hg hm PyProof.Rows.boot_isinstance (pa_cons (ha Γ) (pa_cons (pe_bltn (v := .ty Tn) hgT hmT hv rfl hn hdb) pa_nil he2) he) (by decide) (by decide) he hpl) fun σ H Q h => by
    obtain ⟨τ, ok, h⟩ := prim_one h
    refine ⟨τ, ok, ?_⟩
    cases e1 : fArg A τ with
    | ex e' τ' => rw [e1] at h; exact h
    | bad => rw [e1] at h; exact h
    | ok pk τ' =>
      rw [e1] at h
      intro x H1 s1 ok1 k1
      obtain ⟨O, ds, r, ra, hp, q⟩ := h x H1 s1 ok1 k1
      unfold pIsi at hp
      split at hp
      · obtain ⟨x', e2, r1⟩ := ra1 ra
        cases e2
        obtain ⟨b, hb, rfl⟩ := Option.map_eq_some_iff.mp hp
        obtain ⟨t, ht, hk⟩ := isi_one hb
        exact ⟨x, .ty Tn, .type t, .type Tn, b, rfl, .ty Tn, rep_ty r1 ht, hk, q _ _ (.same (.bl _))⟩
      · cases hp
/-- isinstance(e, (T, U)) -/
theorem de_isi2 {Tn Un : String} {U : Str} {tp tp2 tp3 : Pos} {n : Nat} (ha : DP X e A) (hg : Gl X "isinstance") (hm : X.mg "isinstance" = none) (hgT : Gl X T) (hmT : X.mg T = none) (hv : bootBuiltins T = some (.type Tn))
    (hgU : Gl X U) (hmU : X.mg U = none) (hvU : bootBuiltins U = some (.type Un)) (hn : T ≠ "__name__" := by decide) (hdb : (T == ("__debug__" : Str)) = false := by decide) (hnU : U ≠ "__name__" := by decide) (hdbU : (U == ("__debug__" : Str)) = false := by decide)
    (he : starEach [e, .Tuple [.Name T tp, .Name U tp2] n tp3] X.env = (false, eval e X.env) :: starEach [.Tuple [.Name T tp, .Name U tp2] n tp3] X.env := by rfl) (hpl : (backTo pos (starEach [.Tuple [.Name T tp, .Name U tp2] n tp3] X.env)).any (·.1) = false := by rfl)
    (he2 : starEach [.Tuple [.Name T tp, .Name U tp2] n tp3] X.env = (false, eval (.Tuple [.Name T tp, .Name U tp2] n tp3) X.env) :: starEach [] X.env := by rfl)
    (he3 : starEach [.Name T tp, .Name U tp2] X.env = (false, eval (.Name T tp) X.env) :: starEach [.Name U tp2] X.env := by rfl) (he4 : starEach [.Name U tp2] X.env = (false, eval (.Name U tp2) X.env) :: starEach [] X.env := by rfl) :
    DE X (.Call (.Name "isinstance" p) [e, .Tuple [.Name T tp, .Name U tp2] n tp3] [] pos) (fPrim (pIsi [Tn, Un]) [A]) := fun Γ =>
  peM (pe_callB call_isiT hg hm PyProof.Rows.boot_isinstance (pa_cons (ha Γ) (pa_cons (pe_tup (pa_cons (pe_bltn (v := .ty Tn) hgT hmT hv rfl hn hdb) (pa_cons (pe_bltn (v := .ty Un) hgU hmU hvU rfl hnU hdbU) pa_nil he4) he3)) pa_nil he2) he) (by decide) (by decide) he hpl) fun σ H Q h => by
    obtain ⟨τ, ok, h⟩ := prim_one h
    refine ⟨τ, ok, ?_⟩
    cases e1 : fArg A τ with
    | ex e' τ' => rw [e1] at h; exact h
    | bad => rw [e1] at h; exact h
    | ok pk τ' =>
      rw [e1] at h
      intro x H1 s1 ok1 k1
      obtain ⟨O, ds, r, ra, hp, q⟩ := h x H1 s1 ok1 k1
      unfold pIsi at hp
      split at hp
      · obtain ⟨x', e2, r1⟩ := ra1 ra
        cases e2
        obtain ⟨b, hb, rfl⟩ := Option.map_eq_some_iff.mp hp
        unfold isiD at hb
        split at hb
        · rename_i hT
          obtain ⟨t, ht, rfl⟩ := Option.map_eq_some_iff.mp hb
          refine ⟨by show 2 ≤ sizeLine; rw [sizeLine_eq]; omega, fun T hT2 => ?_⟩
          exact ⟨x, T, [.ty Tn, .ty Un], .type t, [.type Tn, .type Un], _, rfl, upd_same .., cls_all [Tn, Un], Wt.TyX.keep (upd_keep hT2) (rep_ty r1 ht), kitAny_all (tyD_mem ht) [Tn, Un] hT, q _ _ (.toks (upd_keep hT2) (.bl _))⟩
        · cases hb
      · cases hp
end
end Wt
set_option autoImplicit false
set_option Elab.async false
set_option linter.all false
set_option maxRecDepth 100000
/-! Wt.Sort: sorted(list) of texts, of ints, of tuples that begin with a text. -/
namespace Wt
open PySem PySem.Spec PyProof.Rows L2 PySem.W

/-- the text that a tuple begins with -/
def hdT : PyData → Option Str
  | .tuple (.str a :: _) => some a
  | _ => none
theorem hdT_some {d : PyData} {a : Str} (h : hdT d = some a) : ∃ r, d = .tuple (.str a :: r) := by
  unfold hdT at h
  split at h
  · cases h; exact ⟨_, rfl⟩
  · cases h
/-- tuples that begin with texts; any two are alike, or their texts differ -/
structure Mix (ds : List PyData) : Prop where
  hd : ∀ d ∈ ds, ∃ a, hdT d = some a
  two : ∀ d ∈ ds, ∀ e ∈ ds, alike d e = true ∨ hdT d ≠ hdT e
theorem Mix.uniq {ds : List PyData} (m : Mix ds) {h : Heap} {v : Value} {d e : PyData} {as bs : List Addr} (hd : d ∈ ds) (he : e ∈ ds) (r : Reads h v d as) (q : Reads h v e bs) : d = e := by
  rcases m.two d hd e he with a | a
  · exact alike_unique _ _ _ _ _ a r q
  · exfalso
    obtain ⟨x, hx⟩ := m.hd d hd
    obtain ⟨y, hy⟩ := m.hd e he
    rw [hx, hy] at a
    obtain ⟨r1, rfl⟩ := hdT_some hx
    obtain ⟨r2, rfl⟩ := hdT_some hy
    cases r with
    | @tuple l o xs n _ _ h1 h2 h3 h4 =>
      cases q with
      | tuple k1 k2 k3 k4 =>
        rw [h1] at k1; cases k1
        rw [h3] at k3; cases k3
        generalize xs.toList = vs at h4 k4
        cases h4 with
        | cons p1 p2 =>
          cases k4 with
          | cons q1 q2 =>
            cases p1
            cases q1
            exact a rfl
theorem Mix.key {ds : List PyData} (m : Mix ds) {h : Heap} {v : Value} {d : PyData} {as : List Addr} (hd : d ∈ ds) (r : Reads h v d as) : (dataKind h ds).keyOf v = some (keyToks d) := by
  have q : ∃ d, d ∈ ds ∧ ∃ as, Reads h v d as := ⟨d, hd, as, r⟩
  have e : (dataKind h ds).keyOf v = some (keyToks q.choose) := by
    show (open Classical in if q : ∃ d, d ∈ ds ∧ ∃ as, Reads h v d as then some (keyToks q.choose) else none) = _
    rw [dif_pos q]
  obtain ⟨h1, as', h2⟩ := q.choose_spec
  rw [e, m.uniq h1 hd h2 r]
section
variable {prog : Program} {w : World} {A : Around} {s : Shared}
theorem Mix.sorts {vs : List Value} {ds : List PyData} (e : EachIs (fun v d => ∃ as, Reads s.heap v d as) vs ds) (m : Mix ds) (hu : ∀ d, d ∈ ds → A.units + d.depth < cLine) : SortsAt prog w A s (dataKind s.heap ds) vs := by
  refine ⟨fun v hv => ?_, tuples' true, ?_, fun h2 E Q hq => ?_⟩
  · obtain ⟨d, hd, as, r⟩ := e.left v hv
    exact ⟨_, m.key hd r⟩
  · intro E x y a b Q ha hb hq
    obtain ⟨d, as, hd, ra, rfl⟩ := dataKind_inv ha
    obtain ⟨d', as', hd', rb, rfl⟩ := dataKind_inv hb
    have hroom : A.units + min d.depth d'.depth < cLine := Nat.lt_of_le_of_lt (Nat.add_le_add_left (Nat.min_le_left _ _) _) (hu d hd)
    have tw := m.two d hd d' hd'
    obtain ⟨c, hc⟩ := m.hd d hd
    obtain ⟨c', hc'⟩ := m.hd d' hd'
    rw [hc, hc'] at tw
    obtain ⟨r1, rfl⟩ := hdT_some hc
    obtain ⟨r2, rfl⟩ := hdT_some hc'
    have hq' : Q (dataLt (.tuple (.str c :: r1)) (.tuple (.str c' :: r2))) s := hq
    rw [dataLt_tuple] at hq'
    cases ra with
    | @tuple l o xs n _ _ h1 h2 h3 h4 =>
      cases rb with
      | @tuple l' o' xs' n' _ _ k1 k2 k3 k4 =>
        have n1 : xs.size = (PyData.str c :: r1).length := by simpa using SeqAt.ReadsAll.length _ _ _ h4
        have n2 : xs'.size = (PyData.str c' :: r2).length := by simpa using SeqAt.ReadsAll.length _ _ _ k4
        refine kat_lt h1 h3 k1 k3 ?_
        have hal : alike (PyData.str c) (.str c') = true := by simp [alike]
        have hr := SeqAt.room_in hroom
        by_cases hcc : c = c'
        · refine katLex_alike (PyData.str c :: r1) (PyData.str c' :: r2) 0 _ _ _ _ h4 k4 ?_ (by omega) (fun _ _ x r t ex => ?_) (by rw [n1, n2]) hq'
          · rcases tw with tw | tw
            · simpa [alike] using tw
            · exact absurd (by rw [hcc]) tw
          · obtain ⟨rfl, _⟩ := List.cons.inj ex
            exact fun z => by cases z
        · have he : PyData.eqv (.str c) (.str c') = false := by simp [PyData.eqv, hcc]
          rw [dataLt_all_no hal he] at hq'
          generalize ev : xs.toList = us at h4
          generalize ew : xs'.toList = ws at k4
          cases h4 with
          | cons p1 p2 =>
            cases k4 with
            | cons q1 q2 =>
              rw [List.zip_cons_cons]
              refine kat_cons (eqAt_alike _ _ A s _ _ _ _ p1 q1 hal (by simp only [PyData.depth]; omega) prog w _ _ ?_)
              rw [he]
              exact kat_no (oneLt_alike (fun _ t z => by cases z) p1 q1 hal (fun z => by cases z) (by simp only [PyData.depth]; omega) hq')
  · obtain ⟨fs, t1, t2, t3⟩ := each_katTups e fun d hd => by
      obtain ⟨a, ha⟩ := m.hd d hd
      obtain ⟨r, rfl⟩ := hdT_some ha
      exact ⟨_, _, rfl⟩
    refine kat_kind (T := .type "str") t1 (by omega) (fun f hf => ?_) (beq_self_eq_true _) hq
    obtain ⟨x, r, as, m1, m2⟩ := t3 f hf
    obtain ⟨a, ha⟩ := m.hd _ m1
    obtain ⟨r', er⟩ := hdT_some ha
    injection er with er
    injection er with er _
    subst er
    exact looks_reads m2
end

/-! ### sorted -/
def leD : D → D → Bool := dataLe false toP
def mixB (ds : List D) : Bool := (ds.all fun d => (hdT (toP d)).isSome) && ds.all fun d => ds.all fun e => alike (toP d) (toP e) || (hdT (toP d) != hdT (toP e))
def pSorted : List D → Option RV
  | [.lst ds] => if plains ds && decide (ds.length ≤ sizeLine) && (ds.all fun d => decide ((toP d).depth ≤ 60)) && ((strsOf ds).isSome || (intsOf ds).isSome || mixB ds) then some ⟨.lst (ds.mergeSort leD), true⟩ else none
  | _ => none
theorem mixB_ok {ds : List D} (h : mixB ds = true) : Mix (ds.map toP) := by
  unfold mixB at h
  rw [Bool.and_eq_true] at h
  refine ⟨fun d hd => ?_, fun d hd e he => ?_⟩
  · obtain ⟨x, hx, rfl⟩ := List.mem_map.mp hd
    exact Option.isSome_iff_exists.mp (List.all_eq_true.mp h.1 x hx)
  · obtain ⟨x, hx, rfl⟩ := List.mem_map.mp hd
    obtain ⟨y, hy, rfl⟩ := List.mem_map.mp he
    have := List.all_eq_true.mp (List.all_eq_true.mp h.2 x hx) y hy
    rw [Bool.or_eq_true] at this
    rcases this with t | t
    · exact .inl t
    · exact .inr (by simpa using t)
section
variable {X : Cx} {pins : List (Addr × Obj)} {σ : L2.St} {H : Hp} {s : Shared} {O : As}
theorem rep_each (I : Inv X pins σ H s) : ∀ {vs : List V} {ds : List D} {us : List Value}, RepA X.K X.mg O H vs ds → Vals vs us → plains ds = true →
    EachIs (fun u d => ∃ v, RelV v u ∧ Rep X.K X.mg O H v d) us ds ∧ EachIs (fun u d => ∃ as, Reads s.heap u (toP d) as) us ds
  | _, _, _, .nil, .nil, _ => ⟨.nil, .nil⟩
  | _, _, _, .cons r t, .cons q k, p => by
    simp only [plains, Bool.and_eq_true] at p
    obtain ⟨a, b⟩ := rep_each I t k p.2
    exact ⟨.cons ⟨_, q, r⟩ a, .cons (Dp.reads I _ _ _ (r.dp p.1) q) b⟩
theorem each_rep {K : PySem.W.Frag} {mg : Str → Option Value} : ∀ {us : List Value} {ds : List D}, EachIs (fun u d => ∃ v, RelV v u ∧ Rep K mg O H v d) us ds → ∃ vs, Vals vs us ∧ RepA K mg O H vs ds
  | _, _, .nil => ⟨[], .nil, .nil⟩
  | _, _, .cons ⟨v, r, p⟩ t => by
    obtain ⟨vs, a, b⟩ := each_rep t
    exact ⟨v :: vs, .cons r a, .cons p b⟩
theorem pc_sorted (hu : X.A.units + 100 < cLine) : PrimC X (.builtin "sorted") pSorted := fun pins s σ H vs us Q I rv h => by
  obtain ⟨O, ds, r, ra, hp, q⟩ := h
  unfold pSorted at hp
  split at hp
  · rename_i ds
    obtain ⟨x, rfl, r1⟩ := ra1 ra
    split at hp
    · rename_i hz
      cases hp
      rw [Bool.and_eq_true, Bool.and_eq_true, Bool.and_eq_true] at hz
      obtain ⟨⟨⟨z1, z2⟩, z3⟩, z4⟩ := hz
      have z2 := of_decide_eq_true z2
      obtain ⟨a, xs, rfl, h1, t1⟩ := rep_lst r1
      obtain ⟨its, rv', hl, hlen⟩ := I.list h1
      rw [Vals.ref1 rv]
      obtain ⟨e1, e2⟩ := rep_each I t1 rv' z1
      have dep : ∀ b, b ∈ ds → X.A.units + 2 + (toP b).depth < cLine := fun b hb => by
        have := of_decide_eq_true (List.all_eq_true.mp z3 b hb)
        omega
      have fin : ∀ out : List Value, out.length = ds.length → EachIs (fun u d => ∃ v, RelV v u ∧ Rep X.K X.mg O H v d) out (ds.mergeSort leD) →
          EP X pins σ Q (.ref (s.heap.objs.size + 1)) { s with heap := sortedAll s.heap its (List.toArray out) } := fun out ho hE => by
        obtain ⟨ws, k1, k2⟩ := each_rep hE
        obtain ⟨ep, he'⟩ := PyProof.Rows.sortedAll_at s.heap its (List.toArray out)
        have hz : ws.length ≤ sizeLine := by rw [k1.length, ho]; exact z2
        exact ⟨.ref _, upd H (s.heap.objs.size + 1) (.lst ws), I.laid (t' := s.toks) (fun _ _ => PyProof.Rows.sortedAll_old) (Nat.le_succ _) ⟨hz, out, ep, k1, he'⟩, rfl, q _ _ (.new_lst (I.hok.fresh (Nat.le_succ _)) k2)⟩
      rw [Bool.or_eq_true, Bool.or_eq_true] at z4
      rcases z4 with (z4 | z4) | z4
      · obtain ⟨ns, hn⟩ := Option.isSome_iff_exists.mp z4
        have hds := strsOf_eq hn
        refine sorted_data hl.isList e1 e2 ?_ (.inr ?_) z2 dep fin
        · intro d hd d' hd'
          rw [hds] at hd hd'
          obtain ⟨_, h1, rfl⟩ := List.mem_map.mp hd
          obtain ⟨_, h2, rfl⟩ := List.mem_map.mp hd'
          obtain ⟨_, _, rfl⟩ := List.mem_map.mp h1
          obtain ⟨_, _, rfl⟩ := List.mem_map.mp h2
          simp [toP, alike]
        · intro d hd
          rw [hds] at hd
          obtain ⟨_, h1, rfl⟩ := List.mem_map.mp hd
          obtain ⟨_, _, rfl⟩ := List.mem_map.mp h1
          exact ⟨by simp [toP], by simp [toP]⟩
      · obtain ⟨ns, hn⟩ := Option.isSome_iff_exists.mp z4
        have hds := intsOf_eq hn
        refine sorted_data hl.isList e1 e2 ?_ (.inr ?_) z2 dep fin
        · intro d hd d' hd'
          rw [hds] at hd hd'
          obtain ⟨_, h1, rfl⟩ := List.mem_map.mp hd
          obtain ⟨_, h2, rfl⟩ := List.mem_map.mp hd'
          obtain ⟨_, _, rfl⟩ := List.mem_map.mp h1
          obtain ⟨_, _, rfl⟩ := List.mem_map.mp h2
          simp [toP, alike]
        · intro d hd
          rw [hds] at hd
          obtain ⟨_, h1, rfl⟩ := List.mem_map.mp hd
          obtain ⟨_, _, rfl⟩ := List.mem_map.mp h1
          exact ⟨by simp [toP], by simp [toP]⟩
      · have m := mixB_ok z4
        have er' : EachIs (fun v b => ∃ as, Reads (sortingHeap (copyHeap s.heap its) (s.heap.objs.size + 1) its) v (toP b) as) its ds := e2.mono fun _ _ ⟨as, r⟩ => ⟨as, PyProof.Rows.Reads.keeps (fun _ _ => sorting_copy_old) r⟩
        have er := each_map (R := fun v d => ∃ as, Reads (sortingHeap (copyHeap s.heap its) (s.heap.objs.size + 1) its) v d as) toP er'
        refine sorted_vals hl.isList (κ := dataKind (sortingHeap (copyHeap s.heap its) (s.heap.objs.size + 1) its) (ds.map toP)) (m.sorts (s := { s with heap := sortingHeap (copyHeap s.heap its) (s.heap.objs.size + 1) its }) er fun d hd => ?_) (by rw [e1.length]; exact z2) (fin _ ?_ ?_)
        · obtain ⟨b, hb, rfl⟩ := List.mem_map.mp hd
          exact dep b hb
        · rw [sortVals_length false rfl]; exact e1.length
        · refine sortVals_each (κ := dataKind (sortingHeap (copyHeap s.heap its) (s.heap.objs.size + 1) its) (ds.map toP)) (fun b => keyToks (toP b)) e1 ?_
          have ek : EachIs (fun v d => (dataKind (sortingHeap (copyHeap s.heap its) (s.heap.objs.size + 1) its) (ds.map toP)).keyOf v = some (keyToks d)) its (ds.map toP) := (each_mem er).mono fun _ _ ⟨⟨_, r⟩, hd⟩ => m.key hd r
          exact each_of_map toP ek
    · cases hp
  · cases hp
end
end Wt
set_option autoImplicit false
set_option Elab.async false
set_option linter.all false
set_option maxRecDepth 100000
/-! Wt.Mut: lists that change: append, x[i] = v; targets. -/
namespace Wt
open PySem PySem.Spec PyProof.Rows L2

section
variable {K : PySem.W.Frag} {mg : Str → Option Value} {Γ : Fm} {τ : Stt} {σ : L2.St} {H : Hp}
/-- a slot that holds a list that may change -/
theorem SOk.lstAt (ok : SOk K mg Γ τ σ H) {i : Nat} {ds : List D} (h : (τ[i]?).bind Sl.own? = some (.lst ds)) :
    ∃ p xs, σ[i]? = some (some (.ref p)) ∧ H p = some (.lst xs) ∧ RepA K mg (Γ.O τ σ) H xs ds ∧ mutS τ σ p := by
  cases e : τ[i]? with
  | none => rw [e] at h; cases h
  | some s =>
    rw [e] at h
    have q := ok.sl i s e
    cases s with
    | ow d =>
      obtain ⟨p, e1, _, xs, ds', rfl, e2, ra⟩ := q
      cases h
      exact ⟨p, xs, e1, e2, ra, i, _, .inl e, e1⟩
    | ln d =>
      obtain ⟨p, e1, _, xs, ds', rfl, e2, ra⟩ := q
      cases h
      exact ⟨p, xs, e1, e2, ra, i, _, .inr e, e1⟩
    | _ => cases h
/-- .. and has changed -/
theorem SOk.write (ok : SOk K mg Γ τ σ H) {i : Nat} {ds es : List D} {p : Addr} {ys : List V} (h : (τ[i]?).bind Sl.own? = some (.lst ds)) (hp : σ[i]? = some (some (.ref p))) (hr : RepA K mg (Γ.O τ σ) H ys es) :
    SOk K mg Γ (τ.modify i (Sl.put (.lst es))) σ (upd H p (.lst ys)) ∧ Step σ τ H σ (τ.modify i (Sl.put (.lst es))) (upd H p (.lst ys)) := by
  obtain ⟨p', xs, h1, h2, h3, h4⟩ := ok.lstAt h
  rw [hp] at h1; cases h1
  obtain ⟨⟨_, _⟩, oO⟩ := ok.mut_lst h4
  have own : ownAll τ [.s i] = true := by
    unfold ownAll
    rw [h]; rfl
  have st : Stay (Γ.O τ σ) H (Γ.O τ σ) (upd H p (.lst ys)) := ⟨fun _ _ z _ => z, fun a x e z => by
    by_cases ha : a = p
    · subst ha
      rw [h2] at e; cases e
      exact z.elim (fun z => z.elim) fun z => absurd oO z
    · rw [upd_ne ha]; exact e⟩
  obtain ⟨a, _, b⟩ := ok.back (B2 := Γ.B) (ps := [.s i]) (vs := [.ref p]) (refs := [.lst es]) (τ2 := τ.modify i (Sl.put (.lst es))) (H' := upd H p (.lst ys)) (.cons hp .nil) own
    (fun a x e n => by
      have ha : a ≠ p := fun z => n (by rw [z]; exact List.mem_cons_self ..)
      rw [upd_ne ha]; exact e) (fun _ z => z) (fun _ z => .inl z) (.cons ⟨ys, es, rfl, upd_same, hr.stay st⟩ .nil) rfl
  exact ⟨a, b⟩
end

/-! ### x.append(e) -/
def fApp (i : Nat) (F : Ex) : Ex := fun σ => match (σ[i]?).bind Sl.own? with
  | some (.lst _) => (F σ).bind fun r σ1 => match (σ1[i]?).bind Sl.own? with
    | some (.lst xs) => if xs.length < sizeLine then .ok ⟨.non, false⟩ (σ1.modify i (Sl.put (.lst (xs ++ [r.d])))) else .bad
    | _ => .bad
  | _ => .bad
section
variable {X : Cx} {e o : Expr} {i : Nat} {F G : Ex} {apos cpos pos : Pos}
theorem de_app (h : PE X o (tVar i)) (he : DE X e F)
    (hbase : attributeBase o "append" X.env (eval o X.env) = eval o X.env := by rfl)
    (hfew : ((backTo cpos (starEach (e :: []) X.env)).all (fun x => !x.1) && (backToKw cpos (keywordEach [] X.env)).all (fun x => x.1.isSome)
      && decide ((e :: []).length + ([] : List Keyword).length + (if ([] : List Keyword).isEmpty then 0 else 1) < 30)) = true := by rfl)
    (hline : (apos.endLine == cpos.line) = true := by rfl) (hs : starEach [e] X.env = (false, eval e X.env) :: starEach [] X.env := by rfl) (hplain : (backTo cpos (starEach [] X.env)).any (·.1) = false := by rfl) :
    DE X (.Call (.Attribute o "append" apos) [e] [] cpos) (fApp i F) := fun Γ =>
  peM (pe_bm PySem.F.plainAttrs_list PySem.F.slot_list_append PySem.F.type_list_append mt_append h (pa_cons (he Γ) pa_nil hs) hbase hfew hline hs hplain) fun σ H Q hq => by
    obtain ⟨τ, ok, hq⟩ := hq
    unfold fApp at hq
    split at hq
    · rename_i _ xs0 e0
      obtain ⟨p, ys, a1, a2, _, _⟩ := ok.lstAt e0
      refine ⟨.ref p, a1, .inl ⟨rfl, ys, .inl (.inl a2)⟩, τ, ok, ?_⟩
      cases e1 : F τ with
      | bad => rw [e1] at hq; exact hq.elim
      | ex e' τ' => rw [e1] at hq; exact hq
      | ok r τ1 =>
        rw [e1] at hq
        intro v H1 ps
        obtain ⟨s, ok1, rp⟩ := ps.frz ok
        simp only [R.bind] at hq
        split at hq
        · rename_i _ xs e2
          split at hq
          · rename_i hz
            obtain ⟨p', ys', b1, b2, b3, _⟩ := ok1.lstAt e2
            rw [a1] at b1; cases b1
            obtain ⟨ok2, s2⟩ := ok1.write e2 a1 (b3.append (.cons rp .nil))
            exact ⟨p, ys', v, rfl, rfl, b2, by rw [b3.length]; exact hz, hq .non _ ⟨s.trans s2, ok2, .non⟩⟩
          · exact hq.elim
        · exact hq.elim
    · exact hq.elim
end

/-! ### x[i] = v -/
/-- the value a into the list of slot i, at the index ix; then k -/
def putK (i : Nat) (ix : Ex) (a : D) (k : Stt → R Fl) : Stt → R Fl := fun σ1 => match (σ1[i]?).bind Sl.own? with
  | some _ => (ix σ1).bind fun n σ2 => match (σ2[i]?).bind Sl.own?, n.d with
    | some (.lst xs), .int n => match ixN xs.length n with
      | some j => k (σ2.modify i (Sl.put (.lst (xs.set j a))))
      | none => .bad
    | _, _ => .bad
  | none => .bad
def sPutX (i : Nat) (ix val : Ex) : Sm := fun σ => (val σ).bind fun v σ1 => putK i ix v.d (fun σ3 => .ok .nx σ3) σ1
/-- x[k], y = e: a pair of values -/
def sUnpAt (i : Nat) (ix : Ex) (j : Nat) (val : Ex) : Sm := fun σ => (val σ).bind fun v σ1 => match v.d with
  | .tup [a, b] => putK i ix a (fun σ3 => match Tg.put (.nm j) b σ3 with
    | some σ4 => .ok .nx σ4
    | none => .bad) σ1
  | _ => .bad
section
variable {X : Cx} {e o ix : Expr} {i : Nat} {F G : Ex} {tpos pos : Pos}
theorem SOk.ownAt {K : PySem.W.Frag} {mg : Str → Option Value} {Γ : Fm} {τ : Stt} {σ : L2.St} {H : Hp} (ok : SOk K mg Γ τ σ H) {d : D} (h : (τ[i]?).bind Sl.own? = some d) : ∃ p, σ[i]? = some (some (.ref p)) := by
  cases e : τ[i]? with
  | none => rw [e] at h; cases h
  | some s =>
    rw [e] at h
    have q := ok.sl i s e
    cases s with
    | ow d => obtain ⟨p, e1, _⟩ := q; exact ⟨p, e1⟩
    | ln d => obtain ⟨p, e1, _⟩ := q; exact ⟨p, e1⟩
    | _ => cases h
/-- x[ix] = v, read: v is there, the index is evaluated, the list is changed -/
theorem put_read {K : PySem.W.Frag} {mg : Str → Option Value} {Γ : Fm} {τ0 τ1 : Stt} {σ : L2.St} {H0 H1 : Hp} {v : V} {a : D} {Q : L2.St → Hp → Prop} {k : Stt → R Fl} {N : Ends} (st0 : Step σ τ0 H0 σ τ1 H1) (ok1 : SOk K mg Γ τ1 σ H1) (rp : Rep K mg (Γ.O τ1 σ) H1 v a)
    (hq : SFin K mg Γ τ0 σ H0 (putK i G a k τ1) N) (hn : ∀ τ3 H3, SFin K mg Γ τ0 σ H0 (k τ3) N → Step σ τ1 H1 σ τ3 H3 → SOk K mg Γ τ3 σ H3 → Q σ H3) :
    gSub (tVar i) (rd K mg Γ G) rSetL v σ H1 Q := by
  unfold putK at hq
  cases e0 : (τ1[i]?).bind Sl.own? with
  | none => simp only [e0] at hq; exact hq.elim
  | some d0 =>
    simp only [e0] at hq
    obtain ⟨p, hp⟩ := ok1.ownAt e0
    refine ⟨.ref p, hp, τ1, ok1, ?_⟩
    cases e2 : G τ1 with
    | bad => rw [e2] at hq; exact hq.elim
    | ex e' τ' => rw [e2] at hq; exact hq
    | ok k τ2 =>
      simp only [e2, R.bind] at hq
      intro kv H2 pk
      obtain ⟨s2, ok2, rk⟩ := pk.frz ok1
      split at hq
      · rename_i xs n e3 e4
        split at hq
        · rename_i j e5
          rw [e4] at rk
          obtain ⟨p', ys, b1, b2, b3, _⟩ := ok2.lstAt e3
          rw [hp] at b1; cases b1
          have rv := rp.stay (s2.stay ok1)
          obtain ⟨ok3, s3⟩ := ok2.write e3 hp (b3.set rv j)
          exact ⟨p, ys, n, j, rfl, rep_int (.rep rk), b2, by rw [b3.length]; exact e5, hn _ _ hq (s2.trans s3) ok3⟩
        · exact hq.elim
      · exact hq.elim
theorem ds_put (h : PE X o (tVar i)) (hx : DE X ix G) (he : DE X e F) (hs : swapsWithSole [.Subscript o ix tpos] e pos.line X.env = pure false := by rfl) (hw : swappedStores [.Subscript o ix tpos] e X.env = pure none := by rfl)
    (h1 : (assignEach [.Subscript o ix tpos] X.env).map (·.2) = [assign (.Subscript o ix tpos) X.env] := by rfl)
    (ha : ∀ v, assign (.Subscript o ix tpos) X.env v = (do
      let ov ← holding [v] (eval o X.env)
      let iv ← holding [v, ov] (eval ix X.env)
      standAt tpos
      holding [v, ov, iv] (setItem ov iv v)
      release [v, ov, iv] []) := by intro _; rfl) :
    DS X (.Assign [.Subscript o ix tpos] e pos) (sPutX i G F) := fun Γ => psM (ps_asg (he Γ) (pg_sub h (hx Γ) set_list ha) hs hw h1) fun N σ H hq => by
  obtain ⟨τ, ok, hq⟩ := hq
  refine ⟨τ, ok, ?_⟩
  unfold sPutX at hq
  cases e1 : F τ with
  | bad => rw [e1] at hq; exact hq
  | ex e' τ' => rw [e1] at hq; exact hq
  | ok r τ1 =>
    rw [e1] at hq
    intro v H1 ps
    obtain ⟨s, ok1, rp⟩ := ps.frz ok
    simp only [R.bind] at hq
    exact put_read s ok1 rp hq fun τ3 H3 h3 s3 ok3 => h3 σ H3 (s.trans s3) ok3
theorem ds_unpAt {j : Nat} {y : Str} {py tpos2 : Pos} {kt : Nat} (hc : X.calm = true) (h : PE X o (tVar i)) (hx : DE X ix G) (hN : X.N.Nodup) (hy : X.N[j]? = some y) (hl : Loc X.env.scope y) (he : DE X e F)
    (hs : swapsWithSole [.Tuple [.Subscript o ix tpos, .Name y py] kt tpos2] e pos.line X.env = pure false := by rfl) (hw : swappedStores [.Tuple [.Subscript o ix tpos, .Name y py] kt tpos2] e X.env = pure none := by rfl)
    (h1 : (assignEach [.Tuple [.Subscript o ix tpos, .Name y py] kt tpos2] X.env).map (·.2) = [assign (.Tuple [.Subscript o ix tpos, .Name y py] kt tpos2) X.env] := by rfl)
    (ha : ∀ v, assign (.Subscript o ix tpos) X.env v = (do
      let ov ← holding [v] (eval o X.env)
      let iv ← holding [v, ov] (eval ix X.env)
      standAt tpos
      holding [v, ov, iv] (setItem ov iv v)
      release [v, ov, iv] []) := by intro _; rfl)
    (hs1 : (assignEach [.Subscript o ix tpos, .Name y py] X.env).map (·.2) = assign (.Subscript o ix tpos) X.env :: (assignEach [.Name y py] X.env).map (·.2) := by rfl) (hs2 : (assignEach [.Name y py] X.env).map (·.2) = assign (.Name y py) X.env :: (assignEach [] X.env).map (·.2) := by rfl)
    (hn : (assignEach [.Subscript o ix tpos, .Name y py] X.env).length = 2 := by rfl) (hst : (assignEach [.Subscript o ix tpos, .Name y py] X.env).findIdx? (·.1) = none := by rfl)
    (hf : X.fn y = true ∨ X.env.scope.names.lookup y = some .local := by first | exact .inl rfl | exact .inr rfl | assumption) :
    DS X (.Assign [.Tuple [.Subscript o ix tpos, .Name y py] kt tpos2] e pos) (sUnpAt i G j F) := fun Γ => psM (ps_asg (he Γ) (pg_tup hc (pgs_cons (pg_sub h (hx Γ) set_list ha) (pgs_cons (pg_name hN hy hl hf) pgs_nil hs2) hs1) hn hst) hs hw h1) fun N σ H hq => by
  obtain ⟨τ, ok, hq⟩ := hq
  refine ⟨τ, ok, ?_⟩
  unfold sUnpAt at hq
  cases e1 : F τ with
  | bad => rw [e1] at hq; exact hq
  | ex e' τ' => rw [e1] at hq; exact hq
  | ok r τ1 =>
    rw [e1] at hq
    intro v H1 ps
    obtain ⟨s, ok1, rp⟩ := ps.frz ok
    simp only [R.bind] at hq
    split at hq
    · rename_i _ a b ed
      rw [ed] at rp
      cases rp with
      | tup hS ra =>
        cases ra with
        | cons ra rb =>
          cases rb with
          | cons rb rn =>
            cases rn
            rename_i t xs va vb
            refine ⟨_, _, rfl, hS, rfl, va, [vb], rfl, put_read s ok1 ra hq fun τ3 H3 h3 s3 ok3 => ?_⟩
            refine ⟨vb, [], rfl, rfl, ?_⟩
            simp only [Tg.put] at h3
            have rv := rb.stay (s3.stay ok1)
            cases e5 : τ3[j]? with
            | none => simp only [e5] at h3; exact h3.elim
            | some s0 =>
              have go : ∀ (h0 : s0 = .no ∨ (∃ d, s0 = .fz d) ∨ ∃ d, s0 = .ow d), SFin X.K X.mg Γ τ σ H (.ok .nx (τ3.set j (.fz b))) N → N.nx (σ.set j (some vb)) H3 := fun h0 h => by
                obtain ⟨ok4, s4⟩ := ok3.store_fz e5 h0 rv
                exact h _ _ ((s.trans s3).trans s4) ok4
              cases s0 with
              | no => simp only [e5] at h3; exact go (.inl rfl) h3
              | fz d => simp only [e5] at h3; exact go (.inr (.inl ⟨d, rfl⟩)) h3
              | ow d => simp only [e5] at h3; exact go (.inr (.inr ⟨d, rfl⟩)) h3
              | ln d => simp only [e5] at h3; exact h3.elim
              | lk d l => simp only [e5] at h3; exact h3.elim
    · exact hq.elim
/-- t = e, t a tuple of targets -/
theorem ds_unp {tg : Expr} {t : Tg} (hg : DG X tg t) (he : DE X e F) (hs : swapsWithSole [tg] e pos.line X.env = pure false := by rfl) (hw : swappedStores [tg] e X.env = pure none := by rfl)
    (h1 : (assignEach [tg] X.env).map (·.2) = [assign tg X.env] := by rfl) : DS X (.Assign [tg] e pos) (sUnp t F) := fun Γ => psM (ps_asg (he Γ) (hg Γ) hs hw h1) fun N σ H hq => by
  obtain ⟨τ, ok, hq⟩ := hq
  refine ⟨τ, ok, ?_⟩
  unfold sUnp at hq
  cases e1 : F τ with
  | bad => rw [e1] at hq; exact hq
  | ex e' τ' => rw [e1] at hq; exact hq
  | ok r τ1 =>
    rw [e1] at hq
    intro v H1 ps
    obtain ⟨s, ok1, rp⟩ := ps.frz ok
    simp only [R.bind] at hq
    refine ⟨τ1, r.d, ok1, rp, ?_⟩
    cases e2 : t.put r.d τ1 with
    | none => rw [e2] at hq; exact hq.elim
    | some τ2 =>
      rw [e2] at hq
      exact fun σ' H' s2 ok2 _ => hq σ' H' (s.trans s2) ok2
end
end Wt
set_option autoImplicit false
set_option Elab.async false
set_option linter.all false
set_option maxRecDepth 100000
/-! Wt.Par: a, b = x, y and a, b, c = x, y, z. -/
namespace Wt
open PySem PySem.Spec PyProof.Rows L2

def Fm.adds (Γ : Fm) (ps : List Addr) : Fm := { Γ with B := fun a => Γ.B a ∨ a ∈ ps }
section
variable (K : PySem.W.Frag) (mg : Str → Option Value)
/-- values: shared ones, and new lists at ps -/
inductive VsOk (Γ : Fm) (O : As) (H : Hp) : List RV → List V → List Addr → Prop
  | nil : VsOk Γ O H [] [] []
  | fz {d : D} {v : V} {rs : List RV} {vs : List V} {ps : List Addr} : Rep K mg O H v d → VsOk Γ O H rs vs ps → VsOk Γ O H (⟨d, false⟩ :: rs) (v :: vs) ps
  | ow {ds : List D} {p : Addr} {rs : List RV} {vs : List V} {ps : List Addr} : Γ.H0 p = none → ¬ Γ.B p → p ∉ ps → OwnC K mg O H p (.lst ds) → VsOk Γ O H rs vs ps → VsOk Γ O H (⟨.lst ds, true⟩ :: rs) (.ref p :: vs) (p :: ps)
def rdV (Γ : Fm) (Fs : List Ex) : TA := fun σ H Q => ∃ τ, SOk K mg Γ τ σ H ∧ match rvsOf Fs τ with
  | .ok rs τ' => ∀ vs H' ps, Step σ τ H σ τ' H' → SOk K mg (Γ.adds ps) τ' σ H' → (∀ p ∈ ps, H p = none) → VsOk K mg Γ ((Γ.adds ps).O τ' σ) H' rs vs ps → Q vs H'
  | .ex e τ' => Γ.xw e τ'
  | .bad => False
end
section
variable {K : PySem.W.Frag} {mg : Str → Option Value} {Γ Γ' : Fm} {τ τ1 τ' : Stt} {σ : L2.St} {H H1 H' : Hp} {O O' : As} {rs : List RV} {vs : List V} {ps : List Addr}
theorem VsOk.stay (h : VsOk K mg Γ O H rs vs ps) (st : Stay O H O' H') (hp : ∀ p ∈ ps, ∀ x, H p = some x → H' p = some x) : VsOk K mg Γ O' H' rs vs ps := by
  induction h with
  | nil => exact .nil
  | fz r _ ih => exact .fz (r.stay st) (ih hp)
  | ow a b c d _ ih =>
    obtain ⟨xs, es, e1, e2, e3⟩ := d
    exact .ow a b c ⟨xs, es, e1, hp _ (List.mem_cons_self ..) _ e2, e3.stay st⟩ (ih fun p hm => hp p (List.mem_cons_of_mem _ hm))
theorem VsOk.weak (h : VsOk K mg Γ O H rs vs ps) (hO : ∀ a, O' a → O a) : VsOk K mg Γ O' H rs vs ps := h.stay ⟨fun a _ o _ => hO a o, fun _ _ h _ => h⟩ fun _ _ _ e => e
theorem VsOk.frame (h : VsOk K mg Γ O H rs vs ps) (h0 : Γ'.H0 = Γ.H0) (hB : ∀ a, Γ'.B a → Γ.B a) : VsOk K mg Γ' O H rs vs ps := by
  induction h with
  | nil => exact .nil
  | fz r _ ih => exact .fz r ih
  | ow a b c d _ ih => exact .ow (by rw [h0]; exact a) (fun z => b (hB _ z)) c d ih
theorem VsOk.notB (h : VsOk K mg Γ O H rs vs ps) : ∀ p ∈ ps, ¬ Γ.B p := by
  induction h with
  | nil => exact fun p hp => nomatch hp
  | fz _ _ ih => exact ih
  | ow a b _ _ _ ih => exact fun p hp => (List.mem_cons.mp hp).elim (fun z => z ▸ b) (ih p)
theorem adds_nil : Γ.adds [] = Γ := by
  unfold Fm.adds
  have : (fun a => Γ.B a ∨ a ∈ ([] : List Addr)) = Γ.B := funext fun a => propext ⟨fun z => z.elim id fun z => absurd z (by simp), .inl⟩
  rw [this]
theorem adds_cons {p : Addr} : (Γ.add p).adds ps = Γ.adds (p :: ps) := by
  unfold Fm.adds Fm.add
  have : (fun a => (Γ.B a ∨ a = p) ∨ a ∈ ps) = (fun a => Γ.B a ∨ a ∈ p :: ps) := funext fun a => propext ⟨fun z => by
    rcases z with (z | z) | z
    · exact .inl z
    · exact .inr (z ▸ List.mem_cons_self ..)
    · exact .inr (List.mem_cons_of_mem _ z), fun z => by
    rcases z with z | z
    · exact .inl (.inl z)
    · exact (List.mem_cons.mp z).elim (fun z => .inl (.inr z)) .inr⟩
  rw [this]
/-- the values, from left to right -/
theorem rdV_cons {F : Ex} {Fs : List Ex} {Q : List V → Hp → Prop} (h : rdV K mg Γ (F :: Fs) σ H Q) : rd K mg Γ F σ H fun v H1 => ∃ Γ', rdV K mg Γ' Fs σ H1 fun vs H2 => Q (v :: vs) H2 := by
  obtain ⟨τ, ok, h⟩ := h
  refine ⟨τ, ok, ?_⟩
  simp only [rvsOf] at h
  cases e1 : F τ with
  | bad => rw [e1] at h; exact h
  | ex e τ' => rw [e1] at h; exact h
  | ok r τ1 =>
    rw [e1] at h
    intro v H1 pv
    simp only [R.bind] at h
    obtain ⟨d, fr⟩ := r
    cases fr with
    | false =>
      obtain ⟨s, ok1, rp⟩ := pv
      refine ⟨Γ, τ1, ok1, ?_⟩
      cases e2 : rvsOf Fs τ1 with
      | bad => rw [e2] at h; exact h
      | ex e τ' => rw [e2] at h; exact h
      | ok rs τ2 =>
        rw [e2] at h
        intro vs H2 ps s2 ok2 hp vk
        refine h (v :: vs) H2 ps (s.trans s2) ok2 (fun p hm => s.free (hp p hm)) (.fz (rp.stay ⟨fun a x z e => ?_, (s2.stay ok1).k⟩) vk)
        rcases z with (z | z) | z
        · exact .inl z
        · rw [hp a z] at e; cases e
        · exact .inr (s2.o a x z e)
    | true =>
      obtain ⟨s, p, rfl, h0, ok1, xs, ds, rfl, e3, ra⟩ := pv
      refine ⟨Γ.add p, τ1, ok1, ?_⟩
      cases e2 : rvsOf Fs τ1 with
      | bad => rw [e2] at h; exact h
      | ex e τ' => rw [e2] at h; exact h
      | ok rs τ2 =>
        rw [e2] at h
        intro vs H2 ps s2 ok2 hp vk
        rw [adds_cons] at ok2 vk
        have notp : p ∉ ps := fun z => vk.notB p z (.inr rfl)
        have eH2 : H2 p = some (.lst xs) := s2.k p _ e3 fun z => by
          obtain ⟨i, d, z, w⟩ := z
          rcases z with z | z
          · obtain ⟨a, e', ⟨_, n⟩, _⟩ := ok1.sl i _ z
            rw [w] at e'; cases e'
            exact n (.inr rfl)
          · obtain ⟨a, e', ⟨n, _⟩, _⟩ := ok1.sl i _ z
            rw [w] at e'; cases e'
            exact ok.noL h0 n
        refine h _ H2 (p :: ps) (s.trans s2) ok2 (fun q hm => (List.mem_cons.mp hm).elim (fun z => z ▸ h0) fun z => s.free (hp q z)) (.ow (ok.free0 h0) (ok.freeB h0) notp ⟨xs, ds, rfl, eH2, ra.stay ⟨fun a x z e => ?_, (s2.stay ok1).k⟩⟩ (vk.frame rfl fun a z => .inl z))
        rcases z with (z | z) | z
        · exact .inl (.inl z)
        · rcases List.mem_cons.mp z with z | z
          · exact .inl (.inr z)
          · rw [hp a z] at e; cases e
        · exact .inr (s2.o a x z e)
theorem rdV_nil {Q : List V → Hp → Prop} (h : rdV K mg Γ [] σ H Q) : Q [] H := by
  obtain ⟨τ, ok, h⟩ := h
  exact h [] H [] .refl (by rw [adds_nil]; exact ok) (fun p hp => nomatch hp) .nil
end
/-- the expressions' values, new lists still one's own -/
def DV (X : Cx) (es : List Expr) (Fs : List Ex) : Prop := ∀ Γ, PA X es (rdV X.K X.mg Γ Fs)
section
variable {X : Cx} {e : Expr} {es : List Expr} {F : Ex} {Fs : List Ex}
theorem dv_nil : DV X [] [] := fun Γ => paM pa_nil fun σ H Q h => rdV_nil h
theorem dv_cons (he : DE X e F) (hr : DV X es Fs) (hs : starEach (e :: es) X.env = (false, eval e X.env) :: starEach es X.env := by rfl) : DV X (e :: es) (F :: Fs) := fun Γ =>
  paM (pa_cons (t := fun σ H Q => ∃ Γ, rdV X.K X.mg Γ Fs σ H Q) (he Γ) ⟨fun pos pins s σ H Q I ⟨Γ, h⟩ => (hr Γ).run pos pins s σ H Q I h⟩ hs) fun σ H Q h => rdV_cons h
end

/-! ### the names -/
def setAll : L2.St → List Nat → List V → L2.St
  | σ, i :: is, v :: vs => setAll (σ.set i (some v)) is vs
  | σ, _, _ => σ
section
variable {K : PySem.W.Frag} {mg : Str → Option Value} {Γ : Fm} {H : Hp}
theorem storesS_ok (hLB : ∀ a, Γ.L a → Γ.B a) : ∀ {is : List Nat} {rs : List RV} {vs : List V} {ps : List Addr} {τ τ2 : Stt} {σ : L2.St}, SOk K mg (Γ.adds ps) τ σ H → VsOk K mg Γ ((Γ.adds ps).O τ σ) H rs vs ps → storesS is rs τ = some τ2 →
    SOk K mg Γ τ2 (setAll σ is vs) H ∧ ∀ a, (ownS τ2 (setAll σ is vs) a → ownS τ σ a ∨ a ∈ ps) ∧ (mutS τ2 (setAll σ is vs) a → mutS τ σ a ∨ a ∈ ps)
  | [], [], _, _, τ, τ2, σ, ok, .nil, h => by
    cases h
    rw [adds_nil] at ok
    exact ⟨ok, fun a => ⟨.inl, .inl⟩⟩
  | [], _ :: _, _, _, _, _, _, _, _, h => by cases h
  | _ :: _, [], _, _, _, _, _, _, _, h => by cases h
  | i :: is, _ :: rs, _, ps, τ, τ2, σ, ok, .fz (d := d) (v := v) (vs := vs) rp t, h => by
    simp only [storesS] at h
    cases e : storeS i ⟨d, false⟩ τ with
    | none => rw [e] at h; cases h
    | some τ1 =>
      rw [e] at h
      have : SOk K mg (Γ.adds ps) τ1 (σ.set i (some v)) H ∧ Step σ τ H (σ.set i (some v)) τ1 H := by
        refine storeS_ok (r := ⟨d, false⟩) ok ⟨.refl, ok, rp⟩ e
      obtain ⟨ok1, s1⟩ := this
      obtain ⟨a1, a2⟩ := storesS_ok hLB ok1 (t.stay (s1.stay ok) fun p hp x e => e) h
      have lst : ∀ a, ∀ {τ σ}, SOk K mg (Γ.adds ps) τ σ H → (ownS τ σ a ∨ mutS τ σ a) → ∃ x, H a = some x := fun a {τ σ} ok z => by
        rcases z with ⟨j, d, z, w⟩ | ⟨j, d, z, w⟩
        · rcases z with z | z <;> obtain ⟨p, e', _, _, _, _, e2, _⟩ := ok.sl j _ z <;> (rw [w] at e'; cases e'; exact ⟨_, e2⟩)
        · rcases z with z | z <;> obtain ⟨p, e', _, _, _, _, e2, _⟩ := ok.sl j _ z <;> (rw [w] at e'; cases e'; exact ⟨_, e2⟩)
      exact ⟨a1, fun a => ⟨fun z => ((a2 a).1 z).elim (fun z => let ⟨x, e⟩ := lst a ok1 (.inl z); .inl (s1.o a x z e)) .inr, fun z => ((a2 a).2 z).elim (fun z => let ⟨x, e⟩ := lst a ok1 (.inr z); .inl (s1.m a x z e)) .inr⟩⟩
  | i :: is, _ :: rs, _ :: vs, p :: ps, τ, τ2, σ, ok, .ow (ds := ds) g1 g2 g3 c t, h => by
    simp only [storesS] at h
    cases e : storeS i ⟨.lst ds, true⟩ τ with
    | none => rw [e] at h; cases h
    | some τ1 =>
      rw [e] at h
      have go : ∀ s0, τ[i]? = some s0 → (s0 = .no ∨ (∃ d, s0 = .fz d) ∨ ∃ d, s0 = .ow d) → τ1 = τ.set i (.ow (.lst ds)) → SOk K mg Γ τ2 (setAll (σ.set i (some (.ref p))) is vs) H ∧ ∀ a, (ownS τ2 (setAll (σ.set i (some (.ref p))) is vs) a → ownS τ σ a ∨ a ∈ p :: ps) ∧ (mutS τ2 (setAll (σ.set i (some (.ref p))) is vs) a → mutS τ σ a ∨ a ∈ p :: ps) := fun s0 es h0 eτ => by
        subst eτ
        obtain ⟨h1, h2⟩ := SOk.store (Γ := Γ.adds ps) (B2 := (Γ.adds (p :: ps)).B) (s := .ow (.lst ds)) (v := .ref p) ok es h0 (fun a z => z.elim .inl fun z => .inr (List.mem_cons_of_mem _ z)) (fun a z => .inl (hLB a z)) (fun a z => by
            rcases z with z | z
            · exact .inl (.inl z)
            · rcases List.mem_cons.mp z with z | z
              · exact .inr ⟨by rw [z], _, rfl⟩
              · exact .inl (.inr z)) ⟨p, rfl, g1, fun z => z.elim g2 g3, .inr (List.mem_cons_self ..), c⟩
        have new : ∀ a, ((Γ.adds (p :: ps)).B a ∧ ¬ (Γ.adds ps).B a) → a ∈ p :: ps := fun a z => z.1.elim (fun w => absurd (.inl w) z.2) id
        obtain ⟨a1, a2⟩ := storesS_ok hLB h1 (t.weak fun a z => by
          rcases z with z | z
          · exact .inl (z.elim .inl fun z => .inr (List.mem_cons_of_mem _ z))
          · exact ((h2 a).1 z).elim .inr fun z => .inl z.1) h
        exact ⟨a1, fun a => ⟨fun z => ((a2 a).1 z).elim (fun z => ((h2 a).1 z).imp id (new a)) fun z => .inr (List.mem_cons_of_mem _ z), fun z => ((a2 a).2 z).elim (fun z => ((h2 a).2 z).imp id (new a)) fun z => .inr (List.mem_cons_of_mem _ z)⟩⟩
      unfold storeS at e
      cases es : τ[i]? with
      | none => rw [es] at e; cases e
      | some s0 =>
        rw [es] at e
        cases s0 with
        | no => exact go _ es (.inl rfl) (Option.some.inj e).symm
        | fz d => exact go _ es (.inr (.inl ⟨d, rfl⟩)) (Option.some.inj e).symm
        | ow d => exact go _ es (.inr (.inr ⟨d, rfl⟩)) (Option.some.inj e).symm
        | ln d => cases e
        | lk d l => cases e
theorem par_read {Fs : List Ex} {is : List Nat} {N : Ends} {σ : L2.St} {H : Hp} (hq : rdS K mg Γ (sPar is Fs) N σ H) : rdV K mg Γ Fs σ H fun vs H1 => vs.length = Fs.length ∧ N.nx (setAll σ is vs) H1 := by
  obtain ⟨τ, ok, hq⟩ := hq
  refine ⟨τ, ok, ?_⟩
  unfold sPar at hq
  cases e1 : rvsOf Fs τ with
  | bad => rw [e1] at hq; exact hq
  | ex e τ' => rw [e1] at hq; exact hq
  | ok rs τ1 =>
    rw [e1] at hq
    intro vs H1 ps s ok1 hp vk
    simp only [R.bind] at hq
    cases e2 : storesS is rs τ1 with
    | none => rw [e2] at hq; exact hq.elim
    | some τ2 =>
      rw [e2] at hq
      obtain ⟨ok2, ow⟩ := storesS_ok ok.lb ok1 vk e2
      have len : ∀ {rs vs ps} {O : As}, VsOk K mg Γ O H1 rs vs ps → vs.length = rs.length := fun h => by
        induction h with
        | nil => rfl
        | fz _ _ ih => simp [ih]
        | ow _ _ _ _ _ ih => simp [ih]
      have len2 : ∀ (Fs : List Ex) (τ : Stt) (rs : List RV) (τ' : Stt), rvsOf Fs τ = .ok rs τ' → rs.length = Fs.length := fun Fs => by
        induction Fs with
        | nil => intro τ rs τ' h; cases h; rfl
        | cons F Fs ih =>
          intro τ rs τ' h
          simp only [rvsOf] at h
          cases e1 : F τ with
          | bad => rw [e1] at h; cases h
          | ex e τ' => rw [e1] at h; cases h
          | ok r τ1 =>
            rw [e1] at h
            simp only [R.bind] at h
            cases e2 : rvsOf Fs τ1 with
            | bad => rw [e2] at h; cases h
            | ex e τ' => rw [e2] at h; cases h
            | ok rs' τ2 =>
              rw [e2] at h
              cases h
              rw [List.length_cons, List.length_cons, ih _ _ _ e2]
      refine ⟨by rw [len vk, len2 _ _ _ _ e1], hq _ H1 ⟨fun a x z e => ?_, fun a x z e => ?_, s.k, s.t⟩ ok2⟩
      · rcases (ow a).1 z with z | z
        · exact s.o a x z e
        · rw [hp a z] at e; cases e
      · rcases (ow a).2 z with z | z
        · exact s.m a x z e
        · rw [hp a z] at e; cases e
theorem par_readT {Fs : List Ex} {is : List Nat} {N : Ends} {σ : L2.St} {H : Hp} (hq : rdS K mg Γ (sPar is Fs) N σ H) : rdV K mg Γ Fs σ H fun vs H1 => vs.length = Fs.length ∧ ∀ p, H1 p = none → N.nx (setAll σ is vs) (upd H1 p (.tup vs)) := by
  obtain ⟨τ, ok, hq⟩ := hq
  refine ⟨τ, ok, ?_⟩
  unfold sPar at hq
  cases e1 : rvsOf Fs τ with
  | bad => rw [e1] at hq; exact hq
  | ex e τ' => rw [e1] at hq; exact hq
  | ok rs τ1 =>
    rw [e1] at hq
    intro vs H1 ps s ok1 hp vk
    simp only [R.bind] at hq
    cases e2 : storesS is rs τ1 with
    | none => rw [e2] at hq; exact hq.elim
    | some τ2 =>
      rw [e2] at hq
      obtain ⟨ok2, ow⟩ := storesS_ok ok.lb ok1 vk e2
      have len : ∀ {rs vs ps} {O : As}, VsOk K mg Γ O H1 rs vs ps → vs.length = rs.length := fun h => by
        induction h with
        | nil => rfl
        | fz _ _ ih => simp [ih]
        | ow _ _ _ _ _ ih => simp [ih]
      have len2 : ∀ (Fs : List Ex) (τ : Stt) (rs : List RV) (τ' : Stt), rvsOf Fs τ = .ok rs τ' → rs.length = Fs.length := fun Fs => by
        induction Fs with
        | nil => intro τ rs τ' h; cases h; rfl
        | cons F Fs ih =>
          intro τ rs τ' h
          simp only [rvsOf] at h
          cases e1 : F τ with
          | bad => rw [e1] at h; cases h
          | ex e τ' => rw [e1] at h; cases h
          | ok r τ1 =>
            rw [e1] at h
            simp only [R.bind] at h
            cases e2 : rvsOf Fs τ1 with
            | bad => rw [e2] at h; cases h
            | ex e τ' => rw [e2] at h; cases h
            | ok rs' τ2 =>
              rw [e2] at h
              cases h
              rw [List.length_cons, List.length_cons, ih _ _ _ e2]
      refine ⟨by rw [len vk, len2 _ _ _ _ e1], fun p hp2 => hq _ _ (Step.trans (H1 := H1) (τ1 := τ2) (σ1 := setAll σ is vs) ⟨fun a x z e => ?_, fun a x z e => ?_, s.k, s.t⟩ (.grow (upd_keep hp2))) (ok2.grow (upd_keep hp2))⟩
      · rcases (ow a).1 z with z | z
        · exact s.o a x z e
        · rw [hp a z] at e; cases e
      · rcases (ow a).2 z with z | z
        · exact s.m a x z e
        · rw [hp a z] at e; cases e
end
section
variable {X : Cx} {i j l : Nat} {x y z : Str} {a b c : Expr} {F G I : Ex} {px py pz pt pos : Pos} {kt k2 : Nat} {pt2 : Pos}
theorem ds_par (hc : X.calm = true) (hN : X.N.Nodup) (hi : X.N[i]? = some x) (hj : X.N[j]? = some y) (hij : i ≠ j)
    (hx : X.env.scope.names.lookup x = some .local) (hy : X.env.scope.names.lookup y = some .local) (ha : DV X [a, b] [F, G])
    (hw : swappedStores [.Tuple [.Name x px, .Name y py] kt pt] (.Tuple [a, b] k2 pt2) X.env = pure (some [x, y]))
    (hs : swapsWithSole [.Tuple [.Name x px, .Name y py] kt pt] (.Tuple [a, b] k2 pt2) pos.line X.env = pure false := by rfl) :
    DS X (.Assign [.Tuple [.Name x px, .Name y py] kt pt] (.Tuple [a, b] k2 pt2) pos) (sPar [i, j] [F, G]) := fun Γ => psM (ps_par hc hN hi hj hij hx hy (ha Γ) hw hs) fun N σ H hq => by
  obtain ⟨τ, ok, h⟩ := par_read hq
  refine ⟨τ, ok, ?_⟩
  cases e : rvsOf [F, G] τ with
  | bad => rw [e] at h; exact h
  | ex e' τ' => rw [e] at h; exact h
  | ok rs τ' =>
    rw [e] at h
    intro vs H' ps s ok' hp vk
    obtain ⟨hl, h⟩ := h vs H' ps s ok' hp vk
    match vs, hl with
    | [v, w], _ => exact ⟨v, w, rfl, h⟩
theorem ds_par3 (hc : X.calm = true) (hN : X.N.Nodup) (hi : X.N[i]? = some x) (hj : X.N[j]? = some y) (hl : X.N[l]? = some z) (hij : i ≠ j) (hil : i ≠ l) (hjl : j ≠ l)
    (hx : X.env.scope.names.lookup x = some .local) (hy : X.env.scope.names.lookup y = some .local) (hz : X.env.scope.names.lookup z = some .local) (ha : DV X [a, b, c] [F, G, I])
    (hw : swappedStores [.Tuple [.Name x px, .Name y py, .Name z pz] kt pt] (.Tuple [a, b, c] k2 pt2) X.env = pure (some [x, y, z]))
    (hs : swapsWithSole [.Tuple [.Name x px, .Name y py, .Name z pz] kt pt] (.Tuple [a, b, c] k2 pt2) pos.line X.env = pure false := by rfl) :
    DS X (.Assign [.Tuple [.Name x px, .Name y py, .Name z pz] kt pt] (.Tuple [a, b, c] k2 pt2) pos) (sPar [i, j, l] [F, G, I]) := fun Γ => psM (ps_par3 hc hN hi hj hl hij hil hjl hx hy hz (ha Γ) hw hs) fun N σ H hq => by
  obtain ⟨τ, ok, h⟩ := par_read hq
  refine ⟨τ, ok, ?_⟩
  cases e : rvsOf [F, G, I] τ with
  | bad => rw [e] at h; exact h
  | ex e' τ' => rw [e] at h; exact h
  | ok rs τ' =>
    rw [e] at h
    intro vs H' ps s ok' hp vk
    obtain ⟨hl, h⟩ := h vs H' ps s ok' hp vk
    match vs, hl with
    | [u, v, w], _ => exact ⟨u, v, w, rfl, h⟩
/-- names, one after another -/
def gNms : List Nat → TGs
  | [] => gNil
  | i :: is => gCons (gName i) (gNms is)
theorem gNms_all : ∀ {is : List Nat} {vs : List V} {σ : L2.St} {H : Hp} {Q : L2.St → Hp → Prop}, is.length = vs.length → Q (setAll σ is vs) H → gNms is vs σ H Q
  | [], [], _, _, _, _, h => ⟨rfl, h⟩
  | i :: is, v :: vs, _, _, _, hl, h => ⟨v, vs, rfl, gNms_all (is := is) (by simpa using hl) h⟩
  | [], _ :: _, _, _, _, hl, _ => by cases hl
  | _ :: _, [], _, _, _, hl, _ => by cases hl
/-- a, b, .. = x, y, .. where the tuple is made -/
theorem ds_parT {tgs es : List Expr} {is : List Nat} {Fs : List Ex} (hc : X.calm = true) (hE : DV X es Fs) (hg : PGs X tgs (gNms is)) (hl : is.length = Fs.length) (hz : Fs.length ≤ 1000)
    (hn : (assignEach tgs X.env).length = is.length := by rfl) (hst : (assignEach tgs X.env).findIdx? (·.1) = none := by rfl)
    (hs : swapsWithSole [.Tuple tgs kt pt] (.Tuple es k2 pt2) pos.line X.env = pure false := by rfl) (hw : swappedStores [.Tuple tgs kt pt] (.Tuple es k2 pt2) X.env = pure none := by rfl)
    (h1 : (assignEach [.Tuple tgs kt pt] X.env).map (·.2) = [assign (.Tuple tgs kt pt) X.env] := by rfl) :
    DS X (.Assign [.Tuple tgs kt pt] (.Tuple es k2 pt2) pos) (sPar is Fs) := fun Γ => psM (ps_asg (pe_tup (hE Γ)) (pg_tup hc hg hn hst) hs hw h1) fun N σ H hq => by
  have key : ∀ vs H1, vs.length = Fs.length → (∀ p, H1 p = none → N.nx (setAll σ is vs) (upd H1 p (.tup vs))) → vs.length ≤ sizeLine ∧ ∀ p, H1 p = none → gTup X.K is.length (gNms is) (.ref p) σ (upd H1 p (.tup vs)) N.nx := fun vs H1 hlv h => by
    refine ⟨by have := sizeLine_eq; omega, fun p hp => ⟨p, vs, rfl, .inl (.inl upd_same), by omega, gNms_all (by omega) (h p hp)⟩⟩
  obtain ⟨τ, ok, h⟩ := par_readT hq
  refine ⟨τ, ok, ?_⟩
  cases e : rvsOf Fs τ with
  | bad => rw [e] at h; exact h
  | ex e' τ' => rw [e] at h; exact h
  | ok rs τ' =>
    rw [e] at h
    intro vs H' ps s ok' hp vk
    obtain ⟨hl, h⟩ := h vs H' ps s ok' hp vk
    exact key vs H' hl h
end
end Wt
set_option autoImplicit false
set_option Elab.async false
set_option linter.all false
set_option maxRecDepth 100000
/-! Wt.More: x, *y = e; methods of values; repr; defs as values, tables of defs. -/
namespace Wt
open PySem PySem.Spec PyProof.Rows L2 PySem.W

/-! ### x, *y = e -/
section
variable {prog : Program} {w : World} {A : Around} {E : Value → Shared → Prop} {s : Shared}
/-- the first item, and the others in a new list: from a list -/
theorem star_list {l : Addr} {u : Value} {us : List Value} {Q : List Value → Shared → Prop} (hl : s.heap.IsList l (u :: us).toArray) (hh : A.handled = none) (hz : us.length + 1 ≤ sizeLine)
    (h : ∀ (h' : Heap) (tk : Nat), (∀ b o, s.heap.get? b = some o → h'.get? b = some o) → Q [u, .ref h'.objs.size] { s with heap := h'.push { cls := .type "list", data := .seq us.toArray }, toks := tk }) : wpAny (model prog w) A (unpackItems (.ref l) 2 (some 1)) Q E s := by
  have hlt : l ≠ s.heap.objs.size := by obtain ⟨o, ho, _⟩ := hl; exact Nat.ne_of_lt (Heap.lt_size ho)
  unfold unpackItems
  refine wpAny_bind ?_
  unfold notIterableAtAll
  refine wpAny_bind (wpAny_specialOf hl.typeIs slot_list_iter.lookup (wpAny_pure ?_))
  simp only [Bool.false_eq_true, if_false]
  refine wpAny_bind (wpAny_holding (wpAny_pyIter_list hl ?_))
  refine wpAny_bind (wpAny_holding (kun_draw hlt 1 0 _ _ ⟨_, Heap.get?_push_size _ rfl, rfl, rfl⟩ (hl.push _) (by simp) fun h₁ hit₁ hs₁ => ?_))
  have hl₁ : h₁.IsList l (u :: us).toArray := (hl.push _).extBut hs₁.extBut hlt
  obtain ⟨oi, hoi, _⟩ := id hit₁
  obtain ⟨ol, hol, _⟩ := id hl₁
  refine wpAny_bind (wpAny_holding (kun_collect (s := { s with heap := h₁ }) (T := "list_iterator") (.inr (.inr (.inl rfl))) (Walks.list (A := A.in1) hh s.heap.objs.size l hlt (u :: us).toArray) (fun j u st => st.1.typeIs) (k := 1) (by simp) ⟨hit₁, hl₁⟩ (Heap.lt_size hoi) (Heap.lt_size hol) (fun h₂ tk hk => ?_) (by simpa using hz)))
  have he : ∀ b o, s.heap.get? b = some o → h₂.get? b = some o := fun b o e => hk b o (Nat.ne_of_lt (Heap.lt_size e)) (hs₁.extBut b o (Nat.ne_of_lt (Heap.lt_size e)) (Heap.get?_push_of_some _ e))
  have fin : wpAny (model prog w) A (newList us >>= fun d => pure ([u] ++ [d] ++ ([] : List Value))) Q E { s with heap := h₂, toks := tk } := wpAny_bind (wpAny_newList (wpAny_pure (h h₂ tk he)) (by omega))
  simpa using fin
/-- .. from a tuple -/
theorem star_tuple {l : Addr} {u : Value} {us : List Value} {Q : List Value → Shared → Prop} (hl : IsTup s.heap l (u :: us).toArray) (hh : A.handled = none) (hz : us.length + 1 ≤ sizeLine)
    (h : ∀ (h' : Heap) (tk : Nat), (∀ b o, s.heap.get? b = some o → h'.get? b = some o) → Q [u, .ref h'.objs.size] { s with heap := h'.push { cls := .type "list", data := .seq us.toArray }, toks := tk }) : wpAny (model prog w) A (unpackItems (.ref l) 2 (some 1)) Q E s := by
  have hlt : l ≠ s.heap.objs.size := by obtain ⟨o, ho, _⟩ := hl; exact Nat.ne_of_lt (Heap.lt_size ho)
  unfold unpackItems
  refine wpAny_bind ?_
  unfold notIterableAtAll
  refine wpAny_bind (wpAny_specialOf hl.typeIs slot_tuple_iter.lookup (wpAny_pure ?_))
  simp only [Bool.false_eq_true, if_false]
  refine wpAny_bind (wpAny_holding (iter_tuple hl ?_))
  refine wpAny_bind (wpAny_holding (draw_tuple hlt 1 0 _ _ ⟨_, Heap.get?_push_size _ rfl, rfl, rfl⟩ (hl.push _) (by simp) fun h₁ hit₁ hs₁ => ?_))
  have hl₁ : IsTup h₁ l (u :: us).toArray := (hl.push _).extBut hs₁.extBut hlt
  obtain ⟨oi, hoi, _⟩ := id hit₁
  obtain ⟨ol, hol, _⟩ := id hl₁
  refine wpAny_bind (wpAny_holding (kun_collect (s := { s with heap := h₁ }) (T := "tuple_iterator") (.inr (.inr (.inr rfl))) (Walks.tuple (A := A.in1) hh s.heap.objs.size l hlt (u :: us).toArray) (fun j u st => st.1.typeIs) (k := 1) (by simp) ⟨hit₁, hl₁⟩ (Heap.lt_size hoi) (Heap.lt_size hol) (fun h₂ tk hk => ?_) (by simpa using hz)))
  have he : ∀ b o, s.heap.get? b = some o → h₂.get? b = some o := fun b o e => hk b o (Nat.ne_of_lt (Heap.lt_size e)) (hs₁.extBut b o (Nat.ne_of_lt (Heap.lt_size e)) (Heap.get?_push_of_some _ e))
  have fin : wpAny (model prog w) A (newList us >>= fun d => pure ([u] ++ [d] ++ ([] : List Value))) Q E { s with heap := h₂, toks := tk } := wpAny_bind (wpAny_newList (wpAny_pure (h h₂ tk he)) (by omega))
  simpa using fin
end
def gStar (K : PySem.W.Frag) (i j : Nat) : TG := fun v σ H Q => ∃ a z xs, v = .ref a ∧ (SqL K H a (z :: xs) ∨ SqT K H a (z :: xs)) ∧ ∀ p, H p = none → Q ((σ.set i (some z)).set j (some (.ref p))) (upd H p (.lst xs))
/-- x, *y = e -/
def sStar (i j : Nat) (F : Ex) : Sm := fun σ => (F σ).bind fun r σ1 => match itemsOf r.d with
  | some (d :: ds) => match Tg.put (.nm i) d σ1 with
    | some σ2 => match storeS j ⟨.lst ds, true⟩ σ2 with
      | some σ3 => .ok .nx σ3
      | none => .bad
    | none => .bad
  | _ => .bad
section
variable {X : Cx} {e : Expr} {i j : Nat} {x y : Str} {F : Ex} {px py sp tp pos : Pos} {kt : Nat}
theorem pg_star (hc : X.calm = true) (hN : X.N.Nodup) (hi : X.N[i]? = some x) (hj : X.N[j]? = some y) (hx : Loc X.env.scope x) (hy : Loc X.env.scope y)
    (ha : ∀ v, assign (.Tuple [.Name x px, .Starred (.Name y py) sp] kt tp) X.env v = (do standAt tp; assignInOrder [assign (.Name x px) X.env, assign (.Name y py) X.env] (← holding [v] (unpackItems v 2 (some 1)))) := by intro _; rfl)
    (hf : X.fn x = true ∨ X.env.scope.names.lookup x = some .local := by first | exact .inl rfl | exact .inr rfl | assumption) (hf2 : X.fn y = true ∨ X.env.scope.names.lookup y = some .local := by first | exact .inl rfl | exact .inr rfl | assumption) :
    PG X (.Tuple [.Name x px, .Starred (.Name y py) sp] kt tp) (gStar X.K i j) := by
  refine ⟨fun pins s σ H v u Q I r h => ?_⟩
  obtain ⟨a, z, xs, rfl, hq, h⟩ := h
  cases (show u = Value.ref a from r)
  rw [ha]
  refine wpAny_bind (wpAny_standAt (wpAny_bind (wpAny_holding ?_)))
  have fin : ∀ (u1 : Value) (us : List Value), RelV z u1 → Vals xs us → us.length + 1 ≤ sizeLine → ∀ (h' : Heap) (tk : Nat), (∀ b o, s.heap.get? b = some o → h'.get? b = some o) →
      wpAny (model X.prog X.w) X.A (assignInOrder [assign (.Name x px) X.env, assign (.Name y py) X.env] [u1, .ref h'.objs.size]) (fun _ s' => ∃ σ' H', Inv X pins σ' H' s' ∧ Q σ' H') X.xe { s with heap := h'.push { cls := .type "list", data := .seq us.toArray }, toks := tk } := fun u1 us ru rus hz h' tk kp => by
    have I1 : Inv X pins σ H { s with heap := h', toks := tk } := I.kept kp
    have hn : H h'.objs.size = none := I1.hok.fresh (Nat.le_refl _)
    have I2 : Inv X pins σ (upd H h'.objs.size (.lst xs)) { s with heap := h'.push { cls := .type "list", data := .seq us.toArray }, toks := tk } := I1.lnew (t' := tk) rus (by rw [rus.length]; omega)
    show wpAny _ _ (do holding _ (assign (.Name x px) X.env u1); assignInOrder [assign (.Name y py) X.env] [.ref h'.objs.size]) _ _ _
    refine wpAny_bind (wpAny_holding (wpAny_assign_Name (store_ok I2 hN hi hx ru (fun s2 I3 => ?_) hf)))
    show wpAny _ _ (do holding _ (assign (.Name y py) X.env (.ref h'.objs.size)); assignInOrder [] []) _ _ _
    refine wpAny_bind (wpAny_holding (wpAny_assign_Name (store_ok (v := V.ref h'.objs.size) I3 hN hj hy rfl (fun s3 I4 => ?_) hf2)))
    exact wpAny_pure ⟨_, _, I4, h _ hn⟩
  rcases hq with hq | hq
  · obtain ⟨its, rv, hl, hz⟩ := I.list hq
    cases rv with
    | cons r1 r2 =>
      rename_i u1 us
      have hz : us.length + 1 ≤ sizeLine := by rw [← r2.length]; exact hz
      exact star_list hl.isList (I.ok.hd hc) hz fun h' tk kp => fin _ _ r1 r2 hz h' tk kp
  · obtain ⟨its, rv, hl, hz⟩ := I.tuple hq
    cases rv with
    | cons r1 r2 =>
      rename_i u1 us
      have hz : us.length + 1 ≤ sizeLine := by rw [← r2.length]; exact hz
      exact star_tuple hl (I.ok.hd hc) hz fun h' tk kp => fin _ _ r1 r2 hz h' tk kp
theorem put_nm {K : PySem.W.Frag} {mg : Str → Option Value} {Γ : Fm} {τ τ' : Stt} {σ : L2.St} {H : Hp} {v : V} {d : D} (ok : SOk K mg Γ τ σ H) (rp : Rep K mg (Γ.O τ σ) H v d) (h : Tg.put (.nm i) d τ = some τ') :
    SOk K mg Γ τ' (σ.set i (some v)) H ∧ Step σ τ H (σ.set i (some v)) τ' H := by
  simp only [Tg.put] at h
  cases e5 : τ[i]? with
  | none => simp only [e5] at h; cases h
  | some s0 =>
    cases s0 with
    | no => simp only [e5] at h; cases h; exact ok.store_fz e5 (.inl rfl) rp
    | fz d => simp only [e5] at h; cases h; exact ok.store_fz e5 (.inr (.inl ⟨d, rfl⟩)) rp
    | ow d => simp only [e5] at h; cases h; exact ok.store_fz e5 (.inr (.inr ⟨d, rfl⟩)) rp
    | ln d => simp only [e5] at h; cases h
    | lk d l => simp only [e5] at h; cases h
theorem ds_star (hc : X.calm = true) (hN : X.N.Nodup) (hi : X.N[i]? = some x) (hj : X.N[j]? = some y) (hx : Loc X.env.scope x) (hy : Loc X.env.scope y) (he : DE X e F)
    (ha : ∀ v, assign (.Tuple [.Name x px, .Starred (.Name y py) sp] kt tp) X.env v = (do standAt tp; assignInOrder [assign (.Name x px) X.env, assign (.Name y py) X.env] (← holding [v] (unpackItems v 2 (some 1)))) := by intro _; rfl)
    (hs : swapsWithSole [.Tuple [.Name x px, .Starred (.Name y py) sp] kt tp] e pos.line X.env = pure false := by rfl) (hw : swappedStores [.Tuple [.Name x px, .Starred (.Name y py) sp] kt tp] e X.env = pure none := by rfl)
    (h1 : (assignEach [.Tuple [.Name x px, .Starred (.Name y py) sp] kt tp] X.env).map (·.2) = [assign (.Tuple [.Name x px, .Starred (.Name y py) sp] kt tp) X.env] := by rfl)
    (hf : X.fn x = true ∨ X.env.scope.names.lookup x = some .local := by first | exact .inl rfl | exact .inr rfl | assumption) (hf2 : X.fn y = true ∨ X.env.scope.names.lookup y = some .local := by first | exact .inl rfl | exact .inr rfl | assumption) :
    DS X (.Assign [.Tuple [.Name x px, .Starred (.Name y py) sp] kt tp] e pos) (sStar i j F) := fun Γ => psM (ps_asg (he Γ) (pg_star hc hN hi hj hx hy ha hf hf2) hs hw h1) fun N σ H hq => by
  obtain ⟨τ, ok, hq⟩ := hq
  refine ⟨τ, ok, ?_⟩
  unfold sStar at hq
  cases e1 : F τ with
  | bad => rw [e1] at hq; exact hq
  | ex e' τ' => rw [e1] at hq; exact hq
  | ok r τ1 =>
    rw [e1] at hq
    intro v H1 ps
    obtain ⟨s, ok1, rp⟩ := ps.frz ok
    simp only [R.bind] at hq
    split at hq
    · rename_i _ d ds ed
      obtain ⟨a, vs, rfl, hS, ra⟩ := rep_sq (.rep rp) ed
      cases ra with
      | cons r1 r2 =>
        rename_i z xs
        refine ⟨a, z, xs, rfl, hS, fun p hp => ?_⟩
        split at hq
        · rename_i τ2 e2
          split at hq
          · rename_i τ3 e3
            obtain ⟨ok2, s2⟩ := put_nm ok1 r1 e2
            have hd : ¬ ∃ o, H1 p = some o := fun ⟨o, e⟩ => by rw [hp] at e; cases e
            have kp : ∀ a o, H1 a = some o → upd H1 p (.lst xs) a = some o := upd_keep hp
            have ok3 := ok2.grow_add (p := p) (H' := upd H1 p (.lst xs)) kp hp ⟨_, upd_same⟩
            have c : OwnC X.K X.mg ((Γ.add p).O τ2 (σ.set i (some z))) (upd H1 p (.lst xs)) p (.lst ds) := by
              refine ⟨xs, ds, rfl, upd_same, r2.stay ⟨fun b o h e => ?_, fun b o e _ => kp b o e⟩⟩
              rcases h with (h | h) | h
              · exact .inl h
              · rw [h, hp] at e; cases e
              · exact .inr (s2.o b o h e)
            obtain ⟨ok4, s4⟩ := storeS_ok (r := ⟨.lst ds, true⟩) (v := .ref p) ok2 ⟨.grow kp, p, rfl, hp, ok3, c⟩ e3
            exact hq _ _ ((s.trans s2).trans s4) ok4
          · exact hq.elim
        · exact hq.elim
    · exact hq.elim
end
end Wt
set_option autoImplicit false
set_option Elab.async false
set_option linter.all false
set_option maxRecDepth 100000
/-! Wt.Meth: methods of values; repr; a name that holds a def, called; a table of defs. -/
namespace Wt
open PySem PySem.Spec PyProof.Rows L2

def isLst : D → Bool
  | .lst _ => true
  | _ => false
def isStr : D → Bool
  | .str _ => true
  | _ => false
/-- a method of a value: the receiver first, its kind known -/
def fMeth (isT : D → Bool) (p : List D → Option RV) (A : Arg) (Al : List Arg) : Ex := fun σ => (fArg A σ).bind fun pk σ1 => match pk.res σ1 with
  | some d => if isT d then (fArgs Al σ1).bind fun pks σ2 => match resAll σ2 (pk :: pks) with
      | some ds => match p ds with
        | some r => .ok r σ2
        | none => .bad
      | none => .bad
    else .bad
  | none => .bad
def PrimM (X : Cx) (id : String) (p : List D → Option RV) : Prop := MtR X id fun x xs H Q => PrimR X.K X.mg p (x :: xs) H Q
section
variable {X : Cx} {o e : Expr} {es : List Expr} {A : Arg} {Al : List Arg} {name : Str} {apos cpos : Pos} {T id : String} {p : List D → Option RV} {isT : D → Bool}
theorem tyV_lst {K : PySem.W.Frag} {mg : Str → Option Value} {O : As} {H : Hp} {x : V} {d : D} (r : RepT K mg O H x d) (h : isLst d = true) : tyV K "list" x H := by
  cases d with
  | lst ds => obtain ⟨a, xs, rfl, h1, _⟩ := rep_lst r; exact .inl ⟨rfl, xs, h1⟩
  | _ => cases h
theorem tyV_str {K : PySem.W.Frag} {mg : Str → Option Value} {O : As} {H : Hp} {x : V} {d : D} (r : RepT K mg O H x d) (h : isStr d = true) : tyV K "str" x H := by
  cases d with
  | str z => cases rep_str r; exact rfl
  | _ => cases h
theorem de_meth (pa : PlainAttrs T) (slot : Slot T name id) (hty : typeOf (.builtin id) = pure (.type "method_descriptor")) (hT : ∀ {K : PySem.W.Frag} {mg : Str → Option Value} {O : As} {H : Hp} {x : V} {d : D}, RepT K mg O H x d → isT d = true → tyV K T x H)
    (hm : PrimM X id p) (ho : DP X o A) (ha : DA X (e :: es) Al)
    (hbase : attributeBase o name X.env (eval o X.env) = eval o X.env := by rfl)
    (hfew : ((backTo cpos (starEach (e :: es) X.env)).all (fun x => !x.1) && (backToKw cpos (keywordEach [] X.env)).all (fun x => x.1.isSome)
      && decide ((e :: es).length + ([] : List Keyword).length + (if ([] : List Keyword).isEmpty then 0 else 1) < 30)) = true := by rfl)
    (hline : (apos.endLine == cpos.line) = true := by rfl) (hs : starEach (e :: es) X.env = (false, eval e X.env) :: starEach es X.env := by rfl) (hplain : (backTo cpos (starEach es X.env)).any (·.1) = false := by rfl) :
    DE X (.Call (.Attribute o name apos) (e :: es) [] cpos) (fMeth isT p A Al) := fun Γ =>
  peM (pe_bm pa slot hty hm (ho Γ) (ha Γ) hbase hfew hline hs hplain) fun σ H Q h => by
    obtain ⟨τ, ok, h⟩ := h
    refine ⟨τ, ok, ?_⟩
    unfold fMeth at h
    cases e1 : fArg A τ with
    | bad => rw [e1] at h; exact h
    | ex e' τ' => rw [e1] at h; exact h
    | ok pk τ1 =>
      rw [e1] at h
      intro x H1 s1 ok1 k1
      simp only [R.bind] at h
      cases e2 : pk.res τ1 with
      | none => rw [e2] at h; exact h.elim
      | some d =>
        simp only [e2] at h
        split at h
        · rename_i hd
          refine ⟨hT (k1.res ok1 e2) hd, τ1, ok1, ?_⟩
          cases e3 : fArgs Al τ1 with
          | bad => rw [e3] at h; exact h
          | ex e' τ' => rw [e3] at h; exact h
          | ok pks τ2 =>
            simp only [e3] at h
            intro xs H2 s2 ok2 k2
            exact prim_fin (s1.trans s2) ok2 (.cons (k1.stay (s2.stay ok1)) k2) h
        · exact h.elim
end
/-- list.index: where it is found -/
def pIndex : List D → Option RV
  | [.lst ys, y] => if (flatD y).isSome && flatDs ys then match ys.findIdx? (fun z => eqv z y) with
      | some j => some ⟨.int (j : Nat), false⟩
      | none => none
    else none
  | _ => none
def pJoin : List D → Option RV
  | [.str a, d] => match itemsOf d with
    | some ds => match strsOf ds with
      | some ys => if (ys.map (·.length)).sum + ys.length * a.length ≤ 16777216 then some ⟨.str (Txt.join a ys), false⟩ else none
      | none => none
    | none => none
  | _ => none
section
variable {X : Cx}
theorem flats_at {K : PySem.W.Frag} {mg : Str → Option Value} {O : As} {H : Hp} : ∀ {vs : List V} {ds : List D} {j : Nat} {d : D}, RepA K mg O H vs ds → flatDs ds = true → ds[j]? = some d → (flatD d).isSome = true
  | _, _, j, d, .nil, _, h => by simp at h
  | _, _, 0, d, .cons _ _, f, h => by
    simp only [flatDs, Bool.and_eq_true] at f
    simp at h; subst h; exact f.1
  | _, _, j + 1, d, .cons _ t, f, h => by
    simp only [flatDs, Bool.and_eq_true] at f
    exact flats_at (j := j) t f.2 (by simpa using h)
theorem pm_index : PrimM X "list.index" pIndex := fun pins s σ H x xs v us Q I rx rxs h => by
  obtain ⟨O, ds, r, ra, hp, q⟩ := h
  unfold pIndex at hp
  split at hp
  · rename_i ys y
    split at hp
    · rename_i hf
      rw [Bool.and_eq_true] at hf
      split at hp
      · rename_i j hj
        cases hp
        obtain ⟨x', y', e, r1, r2⟩ := ra2 ra
        cases e
        obtain ⟨a, zs, rfl, h1, t1⟩ := rep_lst r1
        obtain ⟨w, hw⟩ := Option.isSome_iff_exists.mp hf.1
        rw [List.findIdx?_eq_some_iff_getElem] at hj
        obtain ⟨hlt, hb, hno⟩ := hj
        obtain ⟨z, hz, rz⟩ := t1.get (i := j) (List.getElem?_eq_getElem hlt)
        refine mt_index pins s σ H _ _ v us Q I rx rxs ⟨a, zs, y', j, z, rfl, rfl, h1, (flat_rep r2 hw).2, flats_rep t1 hf.2, hz, ?_, fun m z' hm hz' => ?_, q _ _ (.same (.int _))⟩
        · rw [flat_eqV (.rep rz) r2 (flats_at t1 hf.2 (List.getElem?_eq_getElem hlt)) hf.1]; exact hb
        · obtain ⟨d', hd', rd'⟩ := t1.getV hz'
          have hm' : m < ys.length := (List.getElem?_eq_some_iff.mp hd').1
          rw [flat_eqV (.rep rd') r2 (flats_at t1 hf.2 hd') hf.1]
          have := hno m hm
          rw [List.getElem?_eq_getElem hm'] at hd'
          cases hd'
          simpa using this
      · cases hp
    · cases hp
  · cases hp
theorem pm_join : PrimM X "str.join" pJoin := fun pins s σ H x xs v us Q I rx rxs h => by
  obtain ⟨O, ds, r, ra, hp, q⟩ := h
  unfold pJoin at hp
  split at hp
  · rename_i a d
    split at hp
    · rename_i ds' hd
      split at hp
      · rename_i ys hy
        split at hp
        · rename_i hz
          cases hp
          obtain ⟨x', y', e, r1, r2⟩ := ra2 ra
          cases e
          cases rep_str r1
          obtain ⟨b, vs, rfl, h1, t1⟩ := rep_sq r2 hd
          rw [strsOf_eq hy] at t1
          rw [t1.strs] at h1
          exact mt_join pins s σ H _ _ v us Q I rx rxs ⟨a, b, ys, rfl, rfl, h1, hz, q _ _ (.same (.str _))⟩
        · cases hp
      · cases hp
    · cases hp
  · cases hp
end

/-! ### repr of lists and tuples -/
mutual
theorem toP_noDict : ∀ d : D, (toP d).hasDict = false
  | .non => rfl
  | .bl _ => rfl
  | .int _ => rfl
  | .str _ => rfl
  | .tup xs => by simp only [toP, PyData.hasDict]; exact toPs_noDict xs
  | .lst xs => by simp only [toP, PyData.hasDict]; exact toPs_noDict xs
  | .dct _ => rfl
  | .set _ => rfl
  | .fn _ => rfl
theorem toPs_noDict : ∀ ds : List D, PyData.hasDictAll (toPs ds) = false
  | [] => rfl
  | x :: xs => by simp only [toPs, PyData.hasDictAll, toP_noDict x, toPs_noDict xs, Bool.or_self]
end
def pRepr : List D → Option RV
  | [d] => if (itemsOf d).isSome && plain d && (toP d).showable && decide ((toP d).depth ≤ 60) && decide ((toP d).shown.length ≤ sizeLine) then some ⟨.str (toP d).shown, false⟩ else none
  | _ => none
section
variable {X : Cx}
theorem pc_repr (hu : X.A.units + 100 < cLine) (hG : X.A.guards = some []) : PrimC X (.builtin "repr") pRepr := fun pins s σ H vs us Q I rv h => by
  obtain ⟨O, ds, r, ra, hp, q⟩ := h
  unfold pRepr at hp
  split at hp
  · rename_i d
    split at hp
    · rename_i hz
      cases hp
      obtain ⟨x, rfl, r1⟩ := ra1 ra
      simp only [Bool.and_eq_true, decide_eq_true_eq] at hz
      obtain ⟨⟨⟨⟨z1, z2⟩, z3⟩, z4⟩, z5⟩ := hz
      obtain ⟨ds', hd⟩ := Option.isSome_iff_exists.mp z1
      obtain ⟨a, zs, rfl, _, _⟩ := rep_sq r1 hd
      obtain ⟨u, rfl, ru⟩ := vals1 rv
      obtain ⟨as, rd⟩ := Dp.reads I _ _ u (r1.dp z2) ru
      cases (show u = Value.ref a from ru)
      exact repr_of_reads' rd z3 (PyData.noDict_hsm (toP_noDict d)) hG (by omega) (fun _ _ e => e) (fun h' u tk hk => ⟨.str _, H, I.kept hk, ⟨_, rfl⟩, q _ _ (.same (.str _))⟩) z5
    · cases hp
  · cases hp
end

/-! ### defs as values -/
/-- the slot's def, called -/
def fCallV (i : Nat) (Gs : Str → Option (List D → Out)) (as : List Arg) : Ex := fun σ => match σ[i]? with
  | some (.fz (.fn x)) => match Gs x with
    | some G => fCall G as σ
    | none => .bad
  | _ => .bad
/-- a def that may be called from here -/
def Callee (X : Cx) (j : Nat) (ms : List Bool) (x : Str) (G : List D → Out) : Prop :=
  ∃ f fd ps k, X.mg x = some (.ref f) ∧ FnG X.prog X.w X.K X.mg X.base CX0 k f fd ps (spG X.K X.mg ms G) ∧ k ≤ j ∧ PySem.W.keepIn X.K (.ref f) = true ∧ Binds X.K fd ps []
section
variable {X : Cx} {e : Expr} {es : List Expr} {i j : Nat} {x : Str} {p pos : Pos} {Gs : Str → Option (List D → Out)} {Al : List Arg} {ms : List Bool}
theorem de_callV (hT : ∀ z G, Gs z = some G → Callee X j ms z G) (hr : Room j X.A) (hG : X.A.guards = some []) (hN : X.N[i]? = some x) (hv : Vis X.env.scope x) (ha : DA X (e :: es) Al) (hms : modes Al = ms) (nd : (slotsA Al).Nodup)
    (hd : (x == ("__debug__" : Str)) = false := by decide) (hcd : (x == ("__classdict__" : Str)) = false := by decide)
    (he : starEach (e :: es) X.env = (false, eval e X.env) :: starEach es X.env := by rfl) (hpl : (backTo pos (starEach es X.env)).any (·.1) = false := by rfl) :
    DE X (.Call (.Name x p) (e :: es) [] pos) (fCallV i Gs Al) := fun Γ => by
  refine ⟨fun pins s σ H Q I h => ?_⟩
  subst hms
  obtain ⟨τ, ok, h⟩ := h
  unfold fCallV at h
  split at h
  · rename_i z es'
    split at h
    · rename_i G hGs
      obtain ⟨f, fd, ps, k, c1, c2, c3, c4, c5⟩ := hT z G hGs
      obtain ⟨v, ev, rv⟩ := ok.sl i _ es'
      cases rv with
      | fn hm =>
        rw [c1] at hm
        cases hm
        have rdg := call_rd (E := E0) nd ⟨τ, ok, h⟩
        refine wpAny_Call_Name_kw (thn ((pe_var (pos := p) hN hv hd hcd).run pins s σ H (fun v H1 => v = .ref f ∧ H1 = H) I ⟨.ref f, ev, rfl, rfl⟩) fun u s1 ⟨v, H1, I1, r1, q1⟩ => ?_)
        obtain ⟨rfl, rfl⟩ := q1
        cases r1
        refine PySem.W.callWith_K (h₀ := X.base) I.ok.mod.kin c4 (thn ((ha Γ).run pos pins s1 σ _ _ I1 rdg) fun us s2 ⟨vs, H2, I2, r, q⟩ => ⟨I2.kIn, ?_⟩) he hpl
        exact run_fnG c2 (hr.mono c3) hG c5 .nil pass0 I2 r (by rw [List.append_nil]; exact q)
    · exact h.elim
  · exact h.elim
end
/-- a table of defs by texts: x in it, what stands there -/
def pLook (tab : List (Str × Str)) : List D → Option RV
  | [.str z] => (tab.lookup z).map fun f => ⟨.fn f, false⟩
  | _ => none
def pInTab (ks : List Str) : List D → Option RV
  | [.str z] => some ⟨.bl (ks.contains z), false⟩
  | _ => none
def pNotInTab (ks : List Str) : List D → Option RV
  | [.str z] => some ⟨.bl (!ks.contains z), false⟩
  | _ => none
section
variable {X : Cx} {e : Expr} {A : Arg} {x : Str} {p pos : Pos} {d : Addr} {tab : List (Str × Str)}
theorem de_look (hg : Gl X x) (hm : X.mg x = some (.ref d)) (hT : ∀ z f, tab.lookup z = some f → ∃ a, X.mg f = some (.ref a) ∧ KDct X.K X.w d z (.ref a)) (he : DP X e A) (hs : PlainIx e := by intro _ _; rfl) (hd : (x == ("__debug__" : Str)) = false := by decide) :
    DE X (.Subscript (.Name x p) e pos) (fPrim (pLook tab) [A]) := fun Γ => peM (pe_ix ix_kdict (pe_glob hg hm (v := .ref d) rfl hd) (he Γ) hs) fun σ H Q h => by
  have h1 := prim_one h
  obtain ⟨τ, ok, h1⟩ := h1
  refine ⟨τ, ok, ?_⟩
  cases e1 : fArg A τ with
  | bad => rw [e1] at h1; exact h1
  | ex e' τ' => rw [e1] at h1; exact h1
  | ok pk τ1 =>
    rw [e1] at h1
    intro v H1 s1 ok1 k1
    obtain ⟨O, ds, r, ra, hp, q⟩ := h1 v H1 s1 ok1 k1
    unfold pLook at hp
    split at hp
    · obtain ⟨x', e, r1⟩ := ra1 ra
      cases e
      obtain ⟨f, hf, rfl⟩ := Option.map_eq_some_iff.mp hp
      cases rep_str r1
      obtain ⟨a, ha, hk⟩ := hT _ f hf
      exact ⟨d, _, .ref a, rfl, rfl, hk, q _ _ (.same (.fn ha))⟩
    · cases hp
end
end Wt
set_option autoImplicit false
set_option Elab.async false
set_option linter.all false
set_option maxRecDepth 100000
/-! Wt.Front: the rules as a program prints them; a def that may be called (Cal). -/
namespace Wt
open PySem PySem.Spec PyProof.Rows L2

section
variable {X : Cx} {i : Nat} {x : Str} {pos : Pos}
/-- a name's slot -/
theorem ws (hN : X.N[i]? = some x := by rfl) (hv : Vis X.env.scope x := by first | exact Or.inl rfl | exact Or.inr (Or.inl rfl) | exact Or.inr (Or.inr rfl)) (hd : (x == ("__debug__" : Str)) = false := by decide) (hcd : (x == ("__classdict__" : Str)) = false := by decide) : PE X (.Name x pos) (tVar i) := pe_var hN hv hd hcd
theorem wv (hN : X.N[i]? = some x := by rfl) (hv : Vis X.env.scope x := by first | exact Or.inl rfl | exact Or.inr (Or.inl rfl) | exact Or.inr (Or.inr rfl)) (hd : (x == ("__debug__" : Str)) = false := by decide) (hcd : (x == ("__classdict__" : Str)) = false := by decide) : DE X (.Name x pos) (fVar i) := de_var (pe_var hN hv hd hcd)
theorem wp (hN : X.N[i]? = some x := by rfl) (hv : Vis X.env.scope x := by first | exact Or.inl rfl | exact Or.inr (Or.inl rfl) | exact Or.inr (Or.inr rfl)) (hd : (x == ("__debug__" : Str)) = false := by decide) (hcd : (x == ("__classdict__" : Str)) = false := by decide) : DP X (.Name x pos) (.s i) := dp_s (pe_var hN hv hd hcd)
theorem wset {e : Expr} {F : Ex} {pos' : Pos} (hN : X.N.Nodup) (he : DE X e F) (hi : X.N[i]? = some x := by rfl) (hx : Loc X.env.scope x := by first | exact Or.inl rfl | exact Or.inr rfl) (hs : swapsWith e (some (.Name x pos')) pos.line X.env = pure false := by rfl) (hf : X.fn x = true ∨ X.env.scope.names.lookup x = some .local := by first | exact .inl rfl | exact .inr rfl) :
    DS X (.Assign [.Name x pos'] e pos) (sSet i F) := ds_set hN hi hx he hs hf
theorem wnm (hN : X.N.Nodup) (hi : X.N[i]? = some x := by rfl) (hx : Loc X.env.scope x := by first | exact Or.inl rfl | exact Or.inr rfl) (hf : X.fn x = true ∨ X.env.scope.names.lookup x = some .local := by first | exact .inl rfl | exact .inr rfl) : DG X (.Name x pos) (.nm i) := dg_nm hN hi hx hf
theorem wret {p2 : Pos} (hN : X.N[i]? = some x := by rfl) (hv : Vis X.env.scope x := by first | exact Or.inl rfl | exact Or.inr (Or.inl rfl) | exact Or.inr (Or.inr rfl)) (hd : (x == ("__debug__" : Str)) = false := by decide) (hcd : (x == ("__classdict__" : Str)) = false := by decide) : DS X (.Return (some (.Name x p2)) pos) (sRetV i) := ds_retV (pe_var hN hv hd hcd)
end

/-! ### defs -/
/-- the def x may be called, where there is room for k calls -/
structure Cal (P : Program) (w : World) (K : PySem.W.Frag) (mg : Str → Option Value) (base : Heap) (k : Nat) (x : Str) (ms : List Bool) (G : List D → Out) : Prop where
  ex : ∃ f fd ps, mg x = some (.ref f) ∧ FnG P w K mg base CX0 k f fd ps (spG K mg ms G) ∧ PySem.W.keepIn K (.ref f) = true ∧ Binds K fd ps []
section
variable {P : Program} {w : World} {K : PySem.W.Frag} {mg : Str → Option Value} {base : Heap} {j k : Nat} {x : Str} {ms : List Bool} {G : List D → Out}
theorem Cal.mono (c : Cal P w K mg base j x ms G) (h : j ≤ k) : Cal P w K mg base k x ms G := by
  obtain ⟨f, fd, ps, a, b, d, e⟩ := c.ex
  exact ⟨f, fd, ps, a, b.mono h, d, e⟩
/-- a def by its body -/
theorem Cal.mk' {qual : Str} {st : Stmt} {f : Addr} {fd : FuncData} {N ps : List Str} {F : Sm} {more : Nat} (Fn : Fun K x qual st f fd) (hm : mg x = some (.ref f)) (S : FnScope N ps (defScope st)) (hms : ms.length = ps.length) (hN : N.length = ps.length + more) (hb : Binds K fd ps [])
    (hbody : ∀ (cdv : Value) (A : Around) (outer : List Env) (s : Shared) (H : Hp) (E : XK), Room k (A.deeper (envOfC qual (defScope st) s.heap.objs.size f cdv)) → A.guards = some [] → DSs (cxOf CX0 P w K mg base N qual (defScope st) f cdv A outer s H E).nox (defBody st) F) :
    Cal P w K mg base (k + 1) x ms (fDef ms more F) := ⟨f, fd, ps, hm, fn_ok Fn S hms hN hbody, Fn.kp, hb⟩
/-- a def whose function is nothing -/
theorem Cal.none {f : Addr} {fd : FuncData} {ps : List Str} (hm : mg x = some (.ref f)) (hk : PySem.W.keepIn K (.ref f) = true) (hb : Binds K fd ps []) : Cal P w K mg base k x ms (fun _ => .bad) := by
  have no : ∀ vs H Q E, spG K mg ms (fun _ => Out.bad) vs H Q E → False := fun vs H Q E h => by
    obtain ⟨B, ds, _, _, _, h⟩ := h
    exact h
  exact ⟨f, fd, ps, hm, ⟨fun vs H Q E h => (no vs H Q E h).elim, fun A outer s H args us vs Q E _ _ _ _ _ h => (no vs H Q E h).elim⟩, hk, hb⟩
end
section
variable {X : Cx} {j k : Nat} {x : Str} {ms : List Bool} {G : List D → Out} {p pos : Pos} {e : Expr} {es : List Expr} {Al : List Arg}
/-- x(e, ..) -/
theorem wcall (c : Cal X.prog X.w X.K X.mg X.base k x ms G) (hr : Room k X.A) (hG : X.A.guards = some []) (ha : DA X (e :: es) Al) (hms : modes Al = ms := by rfl) (nd : (slotsA Al).Nodup := by first | decide | (simp [slotsA]; done)) (hg : Gl X x := by rfl)
    (hdb : (x == ("__debug__" : Str)) = false := by decide) (he : starEach (e :: es) X.env = (false, eval e X.env) :: starEach es X.env := by rfl) (hpl : (backTo pos (starEach es X.env)).any (·.1) = false := by rfl) :
    DE X (.Call (.Name x p) (e :: es) [] pos) (fCall G Al) := by
  obtain ⟨f, fd, ps, a, b, d, h⟩ := c.ex
  exact de_call b hr hG hg a d h ha hms nd hdb he hpl
/-- x(e), e a new list that is lent -/
def fCallT (G : List D → Out) (F : Ex) : Ex := fun σ => (F σ).bind fun r σ1 => match r.fr, G [r.d] with
  | true, .ok d false [_] => .ok ⟨d, false⟩ σ1
  | _, _ => .bad
theorem wcallT {F : Ex} (c : Cal X.prog X.w X.K X.mg X.base k x [true] G) (hr : Room k X.A) (hG : X.A.guards = some []) (hE : DE X e F) (hg : Gl X x := by rfl)
    (hdb : (x == ("__debug__" : Str)) = false := by decide) (he : starEach [e] X.env = (false, eval e X.env) :: starEach [] X.env := by rfl) (hpl : (backTo pos (starEach [] X.env)).any (·.1) = false := by rfl) :
    DE X (.Call (.Name x p) [e] [] pos) (fCallT G F) := fun Γ => by
  obtain ⟨f, fd, ps, a, b, d, h⟩ := c.ex
  refine peM (pe_callG b hr hG hg a d h .nil pass0 (pa_cons (hE Γ) pa_nil he) hdb he hpl) fun σ H Q hq => ?_
  obtain ⟨τ, ok, hq⟩ := hq
  refine ⟨τ, ok, ?_⟩
  unfold fCallT at hq
  cases e1 : F τ with
  | bad => rw [e1] at hq; exact hq
  | ex e' τ' => rw [e1] at hq; exact hq
  | ok r τ1 =>
    rw [e1] at hq
    intro v H1 pv
    obtain ⟨d0, fr⟩ := r
    simp only [R.bind] at hq
    cases fr with
    | false => simp only at hq; exact hq.elim
    | true =>
      obtain ⟨s, q, rfl, hq0, ok1, xs, ds, rfl, e2, ra⟩ := pv
      cases e3 : G [.lst ds] with
      | bad => simp only [e3] at hq; exact hq.elim
      | ex e' refs => simp only [e3] at hq; exact hq.elim
      | ok dd ff refs =>
        cases ff with
        | true => simp only [e3] at hq; exact hq.elim
        | false =>
          simp only [e3] at hq
          split at hq
          · rename_i dd' dx _ er
            cases er
            have bO : ∀ a, (Γ.add q).O τ1 σ a → ∃ o, H1 a = some o := fun a z => by
              rcases z with z | ⟨i, d, z, w⟩
              · exact ok1.bt a z
              · rcases z with z | z <;> obtain ⟨p', e', _, _, _, _, e2', _⟩ := ok1.sl i _ z <;> (rw [w] at e'; cases e'; exact ⟨_, e2'⟩)
            refine ⟨(Γ.add q).O τ1 σ, [.lst ds], .ref (.inl (.inr rfl)) ⟨xs, ds, rfl, e2, ra⟩ .nil, by show (lent [true] [V.ref q]).Nodup; simp [lent], bO, ?_⟩
            rw [e3]
            intro v' H2 kk res
            obtain ⟨hr', rp⟩ := res
            have kk' : ∀ a x, H1 a = some x → a ≠ q → H2 a = some x := fun a x e n => kk a x e (by simp [lent]; exact n)
            cases hr' with
            | cons c _ =>
              obtain ⟨ys, es', _, e4, _⟩ := c
              have okA : SOk X.K X.mg (Γ.add q) τ1 σ H2 := by
                have st : Stay ((Γ.add q).O τ1 σ) H1 ((Γ.add q).O τ1 σ) H2 := ⟨fun _ _ z _ => z, fun a x e z => kk' a x e fun hz => by
                  subst hz
                  rw [e2] at e; cases e
                  exact z.elim (fun z => z.elim) fun z => z (.inl (.inr rfl))⟩
                have nq : ∀ {i : Nat} {s : Sl} {p' : Addr}, τ1[i]? = some s → held s → σ[i]? = some (some (.ref p')) → p' ≠ q := fun {i s p'} h1 h2 h3 hz => by
                  subst hz
                  have := ok1.sl i s h1
                  cases s with
                  | no => exact h2
                  | fz d => exact h2
                  | ow d => obtain ⟨a, e', ⟨_, n⟩, _⟩ := this; rw [h3] at e'; cases e'; exact n (.inr rfl)
                  | ln d => obtain ⟨a, e', ⟨n, _⟩, _⟩ := this; rw [h3] at e'; cases e'; exact ok.noL hq0 n
                  | lk d l =>
                    obtain ⟨a, e', n, _⟩ := this
                    rw [h3] at e'; cases e'
                    rcases n with ⟨_, _, n⟩ | ⟨_, n, _⟩
                    · exact n (.inr rfl)
                    · exact ok.noL hq0 n
                have hC : ∀ {i : Nat} {s : Sl} {p' : Addr} {d : D}, τ1[i]? = some s → held s → σ[i]? = some (some (.ref p')) → OwnC X.K X.mg ((Γ.add q).O τ1 σ) H1 p' d → OwnC X.K X.mg ((Γ.add q).O τ1 σ) H2 p' d := fun {i s p' d} h1 h2 h3 ⟨xs, ds, a, b, c⟩ => ⟨xs, ds, a, kk' _ _ b (nq h1 h2 h3), c.stay st⟩
                refine ⟨ok1.len, fun i s es => ?_, ok1.dist, fun a o e n => ?_, fun a z => ?_, ok1.lb, ok1.la, ok1.pn⟩
                · have qq := ok1.sl i s es
                  cases s with
                  | no => trivial
                  | fz d => obtain ⟨v, e, r⟩ := qq; exact ⟨v, e, r.stay st⟩
                  | ow d => obtain ⟨a, e, h, c⟩ := qq; exact ⟨a, e, h, hC es trivial e c⟩
                  | ln d => obtain ⟨a, e, h, c⟩ := qq; exact ⟨a, e, h, hC es trivial e c⟩
                  | lk d l => obtain ⟨a, e, h, c⟩ := qq; exact ⟨a, e, h, hC es trivial e c⟩
                · have := ok1.fr a o e n
                  refine kk' a o this fun hz => ?_
                  subst hz
                  have e' : Γ.H0 a = some o := e
                  rw [ok.free0 hq0] at e'; cases e'
                · by_cases hz : a = q
                  · exact ⟨_, by rw [hz]; exact e4⟩
                  · obtain ⟨o, e⟩ := ok1.bt a z
                    exact ⟨o, kk' a o e hz⟩
              have ok2 := okA.unadd (ok.noL hq0)
              refine hq v' H2 ⟨⟨s.o, s.m, fun a x e n => ?_, fun a x e => ?_⟩, ok2, rp.weak fun a z => z.elim (fun z => .inl (.inl z)) .inr⟩
              · exact kk' a x (s.k a x e n) fun hz => by rw [hz, hq0] at e; cases e
              · obtain ⟨y, e'⟩ := s.t a x e
                exact ⟨y, kk' a y e' fun hz => by rw [hz, hq0] at e; cases e⟩
          · exact hq.elim
end
section
theorem hu_of {k : Nat} {A : Around} {env : Env} (h : Room k (A.deeper env)) : A.units + 3 + 100 < cLine := by
  have h1 := h.un
  have h2 : (A.deeper env).units = A.units + 3 := rfl
  omega
theorem Cal.callee {X : Cx} {k : Nat} {x : Str} {ms : List Bool} {G : List D → Out} (c : Cal X.prog X.w X.K X.mg X.base k x ms G) : Callee X k ms x G := by
  obtain ⟨f, fd, ps, a, b, d, e⟩ := c.ex
  exact ⟨f, fd, ps, k, a, b, Nat.le_refl _, d, e⟩
theorem wpn {X : Cx} {i : Nat} {x : Str} {pos : Pos} (hN : X.N.Nodup) (hi : X.N[i]? = some x := by rfl) (hx : Loc X.env.scope x := by first | exact Or.inl rfl | exact Or.inr rfl) (hf : X.fn x = true ∨ X.env.scope.names.lookup x = some .local := by first | exact .inl rfl | exact .inr rfl) : PG X (.Name x pos) (gName i) := pg_name hN hi hx hf
end
/-! ### the law -/
/-- where a def stands -/
def Df (K : PySem.W.Frag) (mg : Str → Option Value) (x : Str) (st : Stmt) : Prop := ∃ f fd, Fun K x x st f fd ∧ mg x = some (.ref f)
section
variable {P : Program} {w : World} {K : PySem.W.Frag} {mg : Str → Option Value} {base : Heap} {k : Nat} {ms : List Bool}
theorem look_nil : ∀ z G, ([] : List (Str × (List D → Out))).lookup z = some G → Cal P w K mg base k z ms G := fun z G h => by cases h
theorem look_cons {x : Str} {g : List D → Out} {l : List (Str × (List D → Out))} (h : Cal P w K mg base k x ms g) (t : ∀ z G, l.lookup z = some G → Cal P w K mg base k z ms G) : ∀ z G, ((x, g) :: l).lookup z = some G → Cal P w K mg base k z ms G := fun z G e => by
  rw [List.lookup_cons] at e
  by_cases c : z = x
  · subst c
    rw [beq_self_eq_true] at e
    cases e
    exact h
  · rw [beq_eq_false_iff_ne.mpr c] at e
    exact t z G e
/-- the table's defs -/
theorem tab_nil {Kd : Str → Addr → Prop} : ∀ z f, ([] : List (Str × Str)).lookup z = some f → ∃ a, mg f = some (.ref a) ∧ Kd z a := fun z G h => by cases h
theorem tab_cons {Kd : Str → Addr → Prop} {x f : Str} {a : Addr} {l : List (Str × Str)} (hm : mg f = some (.ref a)) (hk : Kd x a) (t : ∀ z f, l.lookup z = some f → ∃ a, mg f = some (.ref a) ∧ Kd z a) : ∀ z g, ((x, f) :: l).lookup z = some g → ∃ a, mg g = some (.ref a) ∧ Kd z a := fun z G e => by
  rw [List.lookup_cons] at e
  by_cases c : z = x
  · subst c
    rw [beq_self_eq_true] at e
    cases e
    exact ⟨a, hm, hk⟩
  · rw [beq_eq_false_iff_ne.mpr c] at e
    exact t z G e
/-- the law's promise, from what its function tells -/
def spLaw (K : PySem.W.Frag) : Sp := fun vs H Q _ => ∃ (a : Addr) (ns : List Int), vs = [.ref a] ∧ SqL K H a (ns.map V.int) ∧ ns.length ≤ 63 ∧ ∀ H', Q (.bl true) H'
theorem rep_ints {mg : Str → Option Value} {O : As} {H : Hp} : ∀ ns : List Int, RepA K mg O H (ns.map V.int) (ns.map D.int)
  | [] => .nil
  | n :: ns => .cons (.int n) (rep_ints ns)
theorem law_fn {f : Addr} {fd : FuncData} {ps : List Str} {G : List D → Out} (F : FnG P w K mg base CX0 k f fd ps (spG K mg [false] G)) (hG : ∀ ns : List Int, ns.length ≤ 63 → G [.lst (ns.map .int)] = .ok (.bl true) false []) : FnG P w K mg base CX0 k f fd ps (spLaw K) :=
  F.imp fun vs H Q E h => by
    obtain ⟨a, ns, rfl, hS, hl, q⟩ := h
    refine ⟨fun _ => False, [.lst (ns.map .int)], .val ?_ .nil, by simp [lent], fun a z => z.elim, ?_⟩
    · rcases hS with h | ⟨o, its, n, h1, h2, h3, h4, h5, h6⟩
      · exact .lst (fun z => z) h (rep_ints ns)
      · exact .lstW h1 h2 h3 h4 h5 h6 (rep_ints ns)
    · rw [hG ns hl]
      intro v H' _ r
      obtain ⟨_, r⟩ := r
      cases r
      exact q H'
theorem law_cal {f : Addr} {x : Str} {G : List D → Out} (c : Cal P w K mg base k x [false] G) (hm : mg x = some (.ref f)) (hG : ∀ ns : List Int, ns.length ≤ 63 → G [.lst (ns.map .int)] = .ok (.bl true) false []) :
    ∃ fd ps, FnG P w K mg base CX0 k f fd ps (spLaw K) ∧ ∀ (s : Shared) (u : Value), K.In s.heap → BindsTo s fd ⟨[u], []⟩ (ps.zip [u]) := by
  obtain ⟨f2, fd, ps, a, b, _, h⟩ := c.ex
  rw [hm] at a
  cases a
  have hlen : ps.length = 1 := by
    have h0 := b.len [.ref 0] (upd (fun _ => none) 0 (.lst [])) (fun _ _ => True) (fun _ _ _ => False) ⟨fun _ => False, [.lst []], .val (.lst (fun z => z) (.inl upd_same) .nil) .nil, by simp [lent], fun a z => z.elim, by rw [show ([D.lst []] : List D) = [.lst (([] : List Int).map .int)] from rfl, hG [] (by simp)]; intro v H' _ _; trivial⟩
    exact h0.symm
  exact ⟨fd, ps, law_fn b hG, fun s u hk => by have := h s [u] hk (by simpa using hlen.symm); simpa using this⟩
end
end Wt
set_option autoImplicit false
set_option Elab.async false
set_option linter.all false
set_option maxRecDepth 100000
/-! Wt.Math: what a combinator tells: it ends, and P holds of its value and its state. -/
namespace Wt
open PySem L2

inductive W {α : Type} : R α → (α → Stt → Prop) → Prop
  | mk {a : α} {s : Stt} {P : α → Stt → Prop} : P a s → W (.ok a s) P
inductive Wo : Out → (D → Bool → List D → Prop) → Prop
  | mk {d : D} {fr : Bool} {refs : List D} {P : D → Bool → List D → Prop} : P d fr refs → Wo (.ok d fr refs) P
section
variable {α β : Type} {σ : Stt} {P : α → Stt → Prop}
theorem W.mono {r : R α} {Q : α → Stt → Prop} (h : W r Q) (m : ∀ a s, Q a s → P a s) : W r P := by
  cases h with | mk h => exact .mk (m _ _ h)
theorem Wo.mono {o : Out} {P Q : D → Bool → List D → Prop} (h : Wo o Q) (m : ∀ d fr refs, Q d fr refs → P d fr refs) : Wo o P := by
  cases h with | mk h => exact .mk (m _ _ _ h)
theorem W.bind {r : R β} {f : β → Stt → R α} (h : W r fun b s => W (f b s) P) : W (r.bind f) P := by
  cases h with | mk h => exact h
theorem W.eq {r : R α} (h : W r P) : ∃ a s, r = .ok a s ∧ P a s := by
  cases h with | mk h => exact ⟨_, _, rfl, h⟩
theorem Wo.eq {o : Out} {P : D → Bool → List D → Prop} (h : Wo o P) : ∃ d fr refs, o = .ok d fr refs ∧ P d fr refs := by
  cases h with | mk h => exact ⟨_, _, _, rfl, h⟩
end
/-! ### expressions -/
section
variable {σ : Stt} {P : RV → Stt → Prop} {F G I : Ex} {i : Nat} {d : D}
theorem w_c (h : P ⟨d, false⟩ σ) : W (fC d σ) P := W.mk h
theorem w_var (e : σ[i]? = some (.fz d)) (h : P ⟨d, false⟩ σ) : W (fVar i σ) P := by
  unfold fVar; rw [e]; (first | exact h | exact W.mk h | exact Wo.mk h)
theorem w_varO (e : σ[i]? = some (.ow d)) (h : P ⟨d, false⟩ (σ.set i (.fz d))) : W (fVar i σ) P := by
  unfold fVar; rw [e]; (first | exact h | exact W.mk h | exact Wo.mk h)
variable {PA : List Pk → Stt → Prop} {as : List Arg}
theorem w_nil (h : PA [] σ) : W (fArgs [] σ) PA := W.mk h
theorem w_s (e : (σ[i]?).bind Sl.d? = some d) (h : W (fArgs as σ) fun ps s => PA (.s i :: ps) s) : W (fArgs (.s i :: as) σ) PA := by
  simp only [fArgs, fArg, e, R.bind]
  exact W.bind (W.mono h fun _ _ h => W.mk h)
theorem w_v (h : W (F σ) fun r s => W (fArgs as s) fun ps s => PA (.v r.d :: ps) s) : W (fArgs (.v F :: as) σ) PA := by
  simp only [fArgs, fArg]
  exact W.bind (W.bind (W.mono h fun r s h => W.mk (W.bind (W.mono h fun _ _ h => W.mk h))))
theorem w_prim {p : List D → Option RV} (h : W (fArgs as σ) fun ps s => ∃ ds r, resAll s ps = some ds ∧ p ds = some r ∧ P r s) : W (fPrim p as σ) P := by
  unfold fPrim
  refine W.bind (W.mono h fun ps s ⟨ds, r, e1, e2, h⟩ => ?_)
  rw [e1]; simp only [e2]; (first | exact h | exact W.mk h | exact Wo.mk h)
theorem w_call {G : List D → Out} (h : W (fArgs as σ) fun ps s => ownAll s ps = true ∧ ∃ ds, resAll s ps = some ds ∧ Wo (G ds) fun d fr refs => ∃ s2, putRefs ps refs s = some s2 ∧ P ⟨d, fr⟩ s2) : W (fCall G as σ) P := by
  unfold fCall
  refine W.bind (W.mono h fun ps s ⟨e0, ds, e1, h⟩ => ?_)
  rw [if_pos e0, e1]
  obtain ⟨d, fr, refs, e, s2, e2, h⟩ := h.eq
  simp only [e, e2]
  (first | exact h | exact W.mk h | exact Wo.mk h)
theorem w_meth {isT : D → Bool} {p : List D → Option RV} {A : Arg} {d : D} {pk : Pk} {s1 : Stt} (e : fArg A σ = .ok pk s1) (er : pk.res s1 = some d) (ht : isT d = true) (h : W (fArgs as s1) fun pks s => ∃ ds r, resAll s (pk :: pks) = some ds ∧ p ds = some r ∧ P r s) : W (fMeth isT p A as σ) P := by
  unfold fMeth
  rw [e]
  show W (match pk.res s1 with | some d => _ | none => _) P
  rw [er]
  simp only [ht, if_true]
  refine W.bind (W.mono h fun ps s ⟨ds, r, e1, e2, h⟩ => ?_)
  rw [e1]; simp only [e2]; (first | exact h | exact W.mk h | exact Wo.mk h)
/-- the receiver by its value -/
theorem w_methV {isT : D → Bool} {p : List D → Option RV} (h : W (F σ) fun r s => isT r.d = true ∧ W (fArgs as s) fun pks s => ∃ ds r', resAll s (.v r.d :: pks) = some ds ∧ p ds = some r' ∧ P r' s) : W (fMeth isT p (.v F) as σ) P := by
  obtain ⟨r, s, e, ht, h⟩ := h.eq
  exact w_meth (pk := .v r.d) (d := r.d) (s1 := s) (by simp only [fArg, e, R.bind]) rfl ht h
theorem w_callT {G : List D → Out} (h : W (F σ) fun r s => r.fr = true ∧ ∃ d x, G [r.d] = .ok d false [x] ∧ P ⟨d, false⟩ s) : W (fCallT G F σ) P := by
  unfold fCallT
  refine W.bind (W.mono h fun r s ⟨e, d, x, e2, h⟩ => ?_)
  rw [e, e2]; (first | exact h | exact W.mk h | exact Wo.mk h)
theorem w_callV {gs : Str → Option (List D → Out)} {x : Str} {G : List D → Out} (e : σ[i]? = some (.fz (.fn x))) (e2 : gs x = some G) (h : W (fCall G as σ) P) : W (fCallV i gs as σ) P := by
  unfold fCallV; rw [e]; simp only [e2]; (first | exact h | exact W.mk h | exact Wo.mk h)
variable {PD : List D → Stt → Prop} {Fs : List Ex}
theorem w_dnil (h : PD [] σ) : W (dsOf [] σ) PD := W.mk h
theorem w_dcons (h : W (F σ) fun r s => W (dsOf Fs s) fun ds s => PD (r.d :: ds) s) : W (dsOf (F :: Fs) σ) PD := by
  simp only [dsOf]
  exact W.bind (W.mono h fun r s h => W.bind (W.mono h fun _ _ h => W.mk h))
theorem w_tup (h : W (dsOf Fs σ) fun ds s => ds.length ≤ sizeLine ∧ P ⟨.tup ds, false⟩ s) : W (fTup Fs σ) P := by
  unfold fTup
  exact W.bind (W.mono h fun ds s ⟨e, h⟩ => by rw [if_pos e]; (first | exact h | exact W.mk h | exact Wo.mk h))
theorem w_lst (h : W (dsOf Fs σ) fun ds s => ds.length ≤ sizeLine ∧ P ⟨.lst ds, true⟩ s) : W (fLst Fs σ) P := by
  unfold fLst
  exact W.bind (W.mono h fun ds s ⟨e, h⟩ => by rw [if_pos e]; (first | exact h | exact W.mk h | exact Wo.mk h))
theorem w_if {c : Te} (h : W (c σ) fun t s => if t = true then W (F s) P else W (G s) P) : W (fIf c F G σ) P := by
  unfold fIf
  exact W.bind (W.mono h fun t s h => by cases t <;> (first | exact h | exact W.mk h | exact Wo.mk h))
theorem w_and (h : W (F σ) fun r s => ∃ t, r.d = .bl t ∧ if t = true then W (G s) P else P ⟨.bl false, false⟩ s) : W (fAnd F G σ) P := by
  unfold fAnd
  refine W.bind (W.mono h fun r s ⟨t, e, h⟩ => ?_)
  rw [e]
  cases t <;> (first | exact h | exact W.mk h | exact Wo.mk h)
theorem w_or (h : W (F σ) fun r s => ∃ t, r.d = .bl t ∧ if t = true then P ⟨.bl true, false⟩ s else W (G s) P) : W (fOr F G σ) P := by
  unfold fOr
  refine W.bind (W.mono h fun r s ⟨t, e, h⟩ => ?_)
  rw [e]
  cases t <;> (first | exact h | exact W.mk h | exact Wo.mk h)
theorem w_not {c : Te} (h : W (c σ) fun t s => P ⟨.bl (!t), false⟩ s) : W (fNot c σ) P := W.bind (W.mono h fun _ _ h => W.mk h)
theorem w_chain {p q : List D → Option RV} (h : W (F σ) fun x s1 => W (G s1) fun y s2 => ∃ t, p [x.d, y.d] = some ⟨.bl t, false⟩ ∧ if t = true then W (I s2) fun z s3 => ∃ r, q [y.d, z.d] = some r ∧ P r s3 else P ⟨.bl false, false⟩ s2) : W (fChain p q F G I σ) P := by
  unfold fChain
  refine W.bind (W.mono h fun x s1 h => W.bind (W.mono h fun y s2 ⟨t, e, h⟩ => ?_))
  rw [e]
  cases t with
  | true => exact W.bind (W.mono h fun z s3 ⟨r, e2, h⟩ => by rw [e2]; (first | exact h | exact W.mk h | exact Wo.mk h))
  | false => (first | exact h | exact W.mk h | exact Wo.mk h)
def bdD : Option D → Option Int → Prop
  | none, none => True
  | some (.int i), some j => i = j
  | _, _ => False
theorem w_sl {A : Arg} {lo hi : Bd} (h : W (fArg A σ) fun p s1 => W (fBd lo s1) fun l s2 => W (fBd hi s2) fun u s3 => ∃ d r, p.res s3 = some d ∧ slD l u d = some r ∧ P r s3) : W (fSl A lo hi σ) P := by
  unfold fSl
  refine W.bind (W.mono h fun p s1 h => W.bind (W.mono h fun l s2 h => W.bind (W.mono h fun u s3 ⟨d, r, e1, e2, h⟩ => ?_)))
  rw [e1]; simp only [e2]; (first | exact h | exact W.mk h | exact Wo.mk h)
theorem w_as {PB : Pk → Stt → Prop} (e : (σ[i]?).bind Sl.d? = some d) (h : PB (.s i) σ) : W (fArg (.s i) σ) PB := by
  simp only [fArg, e]; (first | exact h | exact W.mk h | exact Wo.mk h)
theorem w_av {PB : Pk → Stt → Prop} (h : W (F σ) fun r s => PB (.v r.d) s) : W (fArg (.v F) σ) PB := by
  simp only [fArg]; exact W.bind (W.mono h fun _ _ h => W.mk h)
variable {PI : Option Int → Stt → Prop}
theorem w_bno (h : PI none σ) : W (fBd .no σ) PI := W.mk h
theorem w_bat {A : Arg} (h : W (fArg A σ) fun p s => ∃ i, p.res s = some (.int i) ∧ PI (some i) s) : W (fBd (.at A) σ) PI := by
  unfold fBd
  refine W.bind (W.mono h fun p s ⟨i, e, h⟩ => ?_)
  rw [e]; (first | exact h | exact W.mk h | exact Wo.mk h)
theorem w_fapp {ds : List D} (e : (σ[i]?).bind Sl.own? = some (.lst ds)) (h : W (F σ) fun r s => ∃ xs, (s[i]?).bind Sl.own? = some (.lst xs) ∧ xs.length < sizeLine ∧ P ⟨.non, false⟩ (s.modify i (Sl.put (.lst (xs ++ [r.d]))))) : W (fApp i F σ) P := by
  unfold fApp
  rw [e]
  refine W.bind (W.mono h fun r s ⟨xs, e1, hz, h⟩ => ?_)
  rw [e1]; simp only [hz, if_true]; (first | exact h | exact W.mk h | exact Wo.mk h)
end
/-! ### tests -/
section
variable {σ : Stt} {P : Bool → Stt → Prop} {F : Ex} {c b : Te}
theorem t_bl (h : W (F σ) fun r s => ∃ t, r.d = .bl t ∧ P t s) : W (tBl F σ) P := by
  unfold tBl
  refine W.bind (W.mono h fun r s ⟨t, e, h⟩ => ?_)
  rw [e]; (first | exact h | exact W.mk h | exact Wo.mk h)
theorem t_val (h : W (F σ) fun r s => ∃ t, truth r.d = some t ∧ P t s) : W (tVal F σ) P := by
  unfold tVal
  refine W.bind (W.mono h fun r s ⟨t, e, h⟩ => ?_)
  rw [e]; (first | exact h | exact W.mk h | exact Wo.mk h)
theorem t_and (h : W (c σ) fun t s => if t = true then W (b s) P else P false s) : W (tAnd c b σ) P := by
  unfold tAnd
  exact W.bind (W.mono h fun t s h => by cases t <;> (first | exact h | exact W.mk h | exact Wo.mk h))
theorem t_or (h : W (c σ) fun t s => if t = true then P true s else W (b s) P) : W (tOr c b σ) P := by
  unfold tOr
  exact W.bind (W.mono h fun t s h => by cases t <;> (first | exact h | exact W.mk h | exact Wo.mk h))
theorem t_not (h : W (c σ) fun t s => P (!t) s) : W (tNot c σ) P := W.bind (W.mono h fun _ _ h => W.mk h)
end
/-! ### statements -/
section
variable {σ : Stt} {P : Fl → Stt → Prop} {F G : Ex} {a b : Sm} {c : Te} {i j : Nat}
theorem s_seq (h : W (a σ) fun f s => match f with | .nx => W (b s) P | f => P f s) : W (sSeq a b σ) P := by
  unfold sSeq
  refine W.bind (W.mono h fun f s h => ?_)
  cases f <;> (first | exact h | exact W.mk h | exact Wo.mk h)
theorem s_nil (h : P .nx σ) : W (sNil σ) P := W.mk h
theorem s_set (h : W (F σ) fun r s => ∃ s2, storeS i r s = some s2 ∧ P .nx s2) : W (sSet i F σ) P := by
  unfold sSet
  refine W.bind (W.mono h fun r s ⟨s2, e, h⟩ => ?_)
  rw [e]; (first | exact h | exact W.mk h | exact Wo.mk h)
theorem s_if (h : W (c σ) fun t s => if t = true then W (a s) P else W (b s) P) : W (sIf c a b σ) P := by
  unfold sIf
  exact W.bind (W.mono h fun t s h => by cases t <;> (first | exact h | exact W.mk h | exact Wo.mk h))
theorem s_ret (h : W (F σ) fun r s => P (.rt r) s) : W (sRet F σ) P := W.bind (W.mono h fun _ _ h => W.mk h)
theorem s_retV {d : D} (e : σ[i]? = some (.fz d)) (h : P (.rt ⟨d, false⟩) σ) : W (sRetV i σ) P := by
  unfold sRetV; rw [e]; (first | exact h | exact W.mk h | exact Wo.mk h)
theorem s_retO {d : D} (e : σ[i]? = some (.ow d)) (h : P (.rt ⟨d, true⟩) (σ.set i .no)) : W (sRetV i σ) P := by
  unfold sRetV; rw [e]; (first | exact h | exact W.mk h | exact Wo.mk h)
theorem s_expr (h : W (F σ) fun _ s => P .nx s) : W (sExpr F σ) P := W.bind (W.mono h fun _ _ h => W.mk h)
theorem s_unp {tg : Tg} (h : W (F σ) fun r s => ∃ s2, tg.put r.d s = some s2 ∧ P .nx s2) : W (sUnp tg F σ) P := by
  unfold sUnp
  refine W.bind (W.mono h fun r s ⟨s2, e, h⟩ => ?_)
  rw [e]; (first | exact h | exact W.mk h | exact Wo.mk h)
theorem s_star (h : W (F σ) fun r s => ∃ d ds s2 s3, itemsOf r.d = some (d :: ds) ∧ Tg.put (.nm i) d s = some s2 ∧ storeS j ⟨.lst ds, true⟩ s2 = some s3 ∧ P .nx s3) : W (sStar i j F σ) P := by
  unfold sStar
  refine W.bind (W.mono h fun r s ⟨d, ds, s2, s3, e1, e2, e3, h⟩ => ?_)
  rw [e1]; simp only [e2, e3]; (first | exact h | exact W.mk h | exact Wo.mk h)
variable {PR : List RV → Stt → Prop} {Fs : List Ex}
theorem w_rnil (h : PR [] σ) : W (rvsOf [] σ) PR := W.mk h
theorem w_rcons (h : W (F σ) fun r s => W (rvsOf Fs s) fun rs s => PR (r :: rs) s) : W (rvsOf (F :: Fs) σ) PR := by
  simp only [rvsOf]
  exact W.bind (W.mono h fun r s h => W.bind (W.mono h fun _ _ h => W.mk h))
theorem s_par {is : List Nat} (h : W (rvsOf Fs σ) fun rs s => ∃ s2, storesS is rs s = some s2 ∧ P .nx s2) : W (sPar is Fs σ) P := by
  unfold sPar
  refine W.bind (W.mono h fun rs s ⟨s2, e, h⟩ => ?_)
  rw [e]; (first | exact h | exact W.mk h | exact Wo.mk h)
theorem p_k {d : D} {k : Stt → R Fl} (h : ∃ x, (σ[i]?).bind Sl.own? = some x ∧ W (F σ) fun n s => ∃ xs m jj, (s[i]?).bind Sl.own? = some (.lst xs) ∧ n.d = .int m ∧ ixN xs.length m = some jj ∧ W (k (s.modify i (Sl.put (.lst (xs.set jj d))))) P) : W (putK i F d k σ) P := by
  unfold putK
  obtain ⟨x, e, h⟩ := h
  rw [e]
  refine W.bind (W.mono h fun n s ⟨xs, m, jj, e1, e2, e3, h⟩ => ?_)
  rw [e1, e2]; simp only [e3]; (first | exact h | exact W.mk h | exact Wo.mk h)
theorem s_put {ix : Ex} (h : W (F σ) fun r s => W (putK i ix r.d (fun s => .ok .nx s) s) P) : W (sPutX i ix F σ) P := W.bind h
theorem s_unpAt {ix : Ex} (h : W (F σ) fun r s => ∃ a b, r.d = .tup [a, b] ∧ W (putK i ix a (fun s3 => match Tg.put (.nm j) b s3 with
    | some s4 => .ok .nx s4
    | none => .bad) s) P) : W (sUnpAt i ix j F σ) P := by
  unfold sUnpAt
  refine W.bind (W.mono h fun r s ⟨a, b, e, h⟩ => ?_)
  rw [e]; (first | exact h | exact W.mk h | exact Wo.mk h)
end
/-! ### loops -/
section
variable {σ : Stt} {it : It} {tg : Tg}
/-- a for: the items by the walk, an invariant by the items done -/
theorem s_for {P : Fl → Stt → Prop} {body : Sm} (h : W (it.run σ) fun ds s => ∃ J : Nat → Stt → Prop, J 0 s ∧ (∀ i d s, ds[i]? = some d → J i s → ∃ s1, tg.put d s = some s1 ∧ W (body s1) fun f s2 => match f with
      | .nx => J (i + 1) s2
      | .ct => J (i + 1) s2
      | .bk => P .nx (it.off σ s2)
      | .rt v => P (.rt v) (it.off σ s2)) ∧ ∀ s, J ds.length s → P .nx (it.off σ s)) : W (sFor it tg body σ) P := by
  unfold sFor
  refine W.bind (W.mono h fun ds s ⟨J, h0, hs, hd⟩ => ?_)
  have go : ∀ (l : List D) (i : Nat) (s : Stt), ds.drop i = l → i ≤ ds.length → J i s → W (forLoop tg body l s) fun f s2 => P f (it.off σ s2) := by
    intro l
    induction l with
    | nil =>
      intro i s e hi hI
      have : i = ds.length := by
        have := congrArg List.length e
        rw [List.length_drop] at this
        simp at this; omega
      subst this
      exact W.mk (hd s hI)
    | cons d l ih =>
      intro i s e hi hI
      have hlt : i < ds.length := by
        have := congrArg List.length e
        rw [List.length_drop, List.length_cons] at this
        omega
      have e1 := List.drop_eq_getElem_cons hlt
      rw [e] at e1
      injection e1 with e1 e2
      have ed : ds[i]? = some d := by rw [List.getElem?_eq_getElem hlt, e1]
      obtain ⟨s1, hp, hb⟩ := hs i d s ed hI
      simp only [forLoop, hp]
      refine W.bind (W.mono hb fun f s2 h => ?_)
      cases f with
      | nx => exact ih (i + 1) s2 e2.symm hlt h
      | ct => exact ih (i + 1) s2 e2.symm hlt h
      | bk => (first | exact h | exact W.mk h | exact Wo.mk h)
      | rt v => (first | exact h | exact W.mk h | exact Wo.mk h)
  exact W.bind (W.mono (go ds 0 s (by simp) (Nat.zero_le _) h0) fun f s h => W.mk h)
/-- a comprehension: an invariant by the items done and what is collected -/
theorem w_lc {P : RV → Stt → Prop} {own : List Nat} {ifs : Te} {elt : Ex} (h : W (it.run σ) fun ds s => clear s own = true ∧ ∃ J : Nat → List D → Stt → Prop, J 0 [] s ∧ (∀ i d acc s, ds[i]? = some d → J i acc s → ∃ s1, tg.put d (wipeS s own) = some s1 ∧ W (ifs s1) fun t s2 =>
      if t = true then W (elt s2) fun r s3 => acc.length < sizeLine ∧ J (i + 1) (acc ++ [r.d]) s3 else J (i + 1) acc s2) ∧ ∀ acc s2, J ds.length acc s2 → P ⟨.lst acc, true⟩ (it.off σ (unwipe s s2 own))) : W (fLc it own tg ifs elt σ) P := by
  unfold fLc
  refine W.bind (W.mono h fun ds s ⟨hc, J, h0, hs, hd⟩ => ?_)
  rw [if_pos hc]
  have go : ∀ (l : List D) (i : Nat) (acc : List D) (s : Stt), ds.drop i = l → i ≤ ds.length → J i acc s → W (lcLoop own tg ifs elt l acc s) fun acc s2 => J ds.length acc s2 := by
    intro l
    induction l with
    | nil =>
      intro i acc s e hi hI
      have : i = ds.length := by
        have := congrArg List.length e
        rw [List.length_drop] at this
        simp at this; omega
      subst this
      exact W.mk hI
    | cons d l ih =>
      intro i acc s e hi hI
      have hlt : i < ds.length := by
        have := congrArg List.length e
        rw [List.length_drop, List.length_cons] at this
        omega
      have e1 := List.drop_eq_getElem_cons hlt
      rw [e] at e1
      injection e1 with e1 e2
      have ed : ds[i]? = some d := by rw [List.getElem?_eq_getElem hlt, e1]
      obtain ⟨s1, hp, hb⟩ := hs i d acc s ed hI
      simp only [lcLoop, hp]
      refine W.bind (W.mono hb fun t s2 h => ?_)
      cases t with
      | false => exact ih (i + 1) acc s2 e2.symm hlt h
      | true =>
        refine W.bind (W.mono h fun r s3 h => ?_)
        rw [if_pos h.1]
        exact ih (i + 1) _ s3 e2.symm hlt h.2
  exact W.bind (W.mono (go ds 0 [] s (by simp) (Nat.zero_le _) h0) fun acc s2 h => W.mk (hd acc s2 h))
variable {PI : List D → Stt → Prop} {F G : Ex}
theorem i_ex (h : W (F σ) fun r s => ∃ ds, itemsOf r.d = some ds ∧ PI ds s) : W (It.run (.ex F) σ) PI := by
  simp only [It.run]
  refine W.bind (W.mono h fun r s ⟨ds, e, h⟩ => ?_)
  rw [e]; (first | exact h | exact W.mk h | exact Wo.mk h)
theorem i_fz {i : Nat} {d : D} {ds : List D} (e : σ[i]? = some (.fz d)) (e2 : itemsOf d = some ds) (h : PI ds σ) : W (It.run (.sl i) σ) PI := by
  simp only [It.run, e, e2]; (first | exact h | exact W.mk h | exact Wo.mk h)
theorem i_ow {i : Nat} {ds : List D} (e : σ[i]? = some (.ow (.lst ds))) (h : PI ds (σ.set i (.lk (.lst ds) false))) : W (It.run (.sl i) σ) PI := by
  simp only [It.run, e]; (first | exact h | exact W.mk h | exact Wo.mk h)
theorem i_rng (h : W (F σ) fun r s => ∃ b, r.d = .int b ∧ small b = true ∧ PI (rangeD 0 b) s) : W (It.run (.rng F) σ) PI := by
  simp only [It.run]
  refine W.bind (W.mono h fun r s ⟨b, e, e2, h⟩ => ?_)
  rw [e]; simp only [e2, if_true]; (first | exact h | exact W.mk h | exact Wo.mk h)
theorem i_enum (h : W (F σ) fun r s => ∃ ds, r.d = .lst ds ∧ PI (enumD 0 ds) s) : W (It.run (.enum F) σ) PI := by
  simp only [It.run]
  refine W.bind (W.mono h fun r s ⟨ds, e, h⟩ => ?_)
  rw [e]; (first | exact h | exact W.mk h | exact Wo.mk h)
theorem i_zip (h : W (F σ) fun r s => W (G s) fun q s => ∃ ds es, ((r.d = .lst ds ∧ q.d = .lst es) ∨ (r.d = .tup ds ∧ q.d = .tup es)) ∧ PI (zipD ds es) s) : W (It.run (.zip F G) σ) PI := by
  simp only [It.run]
  refine W.bind (W.mono h fun r s h => W.bind (W.mono h fun q s ⟨ds, es, e, h⟩ => ?_))
  rcases e with ⟨e1, e2⟩ | ⟨e1, e2⟩ <;> rw [e1, e2] <;> (first | exact h | exact W.mk h | exact Wo.mk h)
end
/-! ### a def -/
theorem w_def {ms : List Bool} {more : Nat} {body : Sm} {ds : List D} {σ : Stt} {P : D → Bool → List D → Prop} (e : startS ms ds more = some σ) (h : W (body σ) fun f s => ∃ rs, refsOf ms s = some rs ∧ match f with
    | .nx => P .non false rs
    | .rt v => P v.d v.fr rs
    | _ => False) : Wo (fDef ms more body ds) P := by
  unfold fDef
  rw [e]
  obtain ⟨f, s, eb, rs, er, h⟩ := h.eq
  simp only [eb, er]
  cases f <;> (first | exact Wo.mk h | exact h.elim)
theorem rangeD_get {n i : Nat} {d : D} (h : (rangeD 0 (n : Int))[i]? = some d) : i < n ∧ d = .int i := by
  unfold rangeD at h
  rw [List.getElem?_map] at h
  have e : ((n : Int) - 0).toNat = n := by omega
  rw [e] at h
  by_cases hi : i < n
  · rw [List.getElem?_eq_getElem (by simpa using hi)] at h
    simp at h
    exact ⟨hi, by rw [← h]⟩
  · rw [List.getElem?_eq_none (by simpa using hi)] at h
    cases h
theorem rangeD_lenN (n : Nat) : (rangeD 0 (n : Int)).length = n := by
  unfold rangeD
  simp
end Wt
set_option autoImplicit false
set_option Elab.async false
set_option linter.all false
set_option maxRecDepth 100000
/-! Wt.Mut2: more methods that change a list; upper; str; a statement that is not reached. -/
namespace Wt
open PySem PySem.Spec PyProof.Rows L2

def sBad : Sm := fun _ => .bad
theorem ds_bad {X : Cx} {s : Stmt} : DS X s sBad := fun Γ => ⟨fun pins s σ H D I q => by
  obtain ⟨τ, ok, h⟩ := q
  exact h.elim⟩
/-- a method that changes the list of slot i: content, arguments = new content, its value -/
def fMutX (i : Nat) (m : List D → List D → Option (List D × D)) (Fs : List Ex) : Ex := fun σ => match (σ[i]?).bind Sl.own? with
  | some (.lst _) => (dsOf Fs σ).bind fun ds σ1 => match (σ1[i]?).bind Sl.own? with
    | some (.lst xs) => match m xs ds with
      | some (ys, d) => .ok ⟨d, false⟩ (σ1.modify i (Sl.put (.lst ys)))
      | none => .bad
    | _ => .bad
  | _ => .bad
/-- what a method's rule is to give -/
def PrimL (X : Cx) (m : List D → List D → Option (List D × D)) : V → List V → Hp → VK → Prop := fun x vs H Q =>
  ∃ O l xs ds as es d, x = .ref l ∧ H l = some (.lst xs) ∧ RepA X.K X.mg O H xs ds ∧ RepA X.K X.mg O H vs as ∧ m ds as = some (es, d) ∧
    ∀ ys v, RepA X.K X.mg O H ys es → Rep X.K X.mg O H v d → Q v (upd H l (.lst ys))
section
variable {X : Cx} {e o : Expr} {es : List Expr} {i : Nat} {Fs : List Ex} {name : Str} {id : String} {apos cpos pos : Pos} {m : List D → List D → Option (List D × D)}
theorem de_mut (slot : Slot "list" name id) (hty : typeOf (.builtin id) = pure (.type "method_descriptor")) (hm : MtR X id (PrimL X m)) (h : PE X o (tVar i)) (he : DA X (e :: es) (Fs.map .v))
    (hbase : attributeBase o name X.env (eval o X.env) = eval o X.env := by rfl)
    (hfew : ((backTo cpos (starEach (e :: es) X.env)).all (fun x => !x.1) && (backToKw cpos (keywordEach [] X.env)).all (fun x => x.1.isSome)
      && decide ((e :: es).length + ([] : List Keyword).length + (if ([] : List Keyword).isEmpty then 0 else 1) < 30)) = true := by rfl)
    (hline : (apos.endLine == cpos.line) = true := by rfl) (hs : starEach (e :: es) X.env = (false, eval e X.env) :: starEach es X.env := by rfl) (hplain : (backTo cpos (starEach es X.env)).any (·.1) = false := by rfl) :
    DE X (.Call (.Attribute o name apos) (e :: es) [] cpos) (fMutX i m Fs) := fun Γ =>
  peM (pe_bm PySem.F.plainAttrs_list slot hty hm h (he Γ) hbase hfew hline hs hplain) fun σ H Q hq => by
    obtain ⟨τ, ok, hq⟩ := hq
    unfold fMutX at hq
    split at hq
    · rename_i _ xs0 e0
      obtain ⟨p, ys, a1, a2, _, _⟩ := ok.lstAt e0
      refine ⟨.ref p, a1, .inl ⟨rfl, ys, .inl (.inl a2)⟩, ?_⟩
      refine dsOf_rdA ok ?_
      cases e1 : dsOf Fs τ with
      | bad => rw [e1] at hq; exact hq.elim
      | ex e' τ' => rw [e1] at hq; exact hq
      | ok ds τ1 =>
        rw [e1] at hq
        intro vs H1 s ok1 ra
        simp only [R.bind] at hq
        split at hq
        · rename_i _ xs e2
          split at hq
          · rename_i ys d hz
            obtain ⟨p', ys', b1, b2, b3, _⟩ := ok1.lstAt e2
            rw [a1] at b1; cases b1
            refine ⟨_, p, ys', xs, ds, ys, d, rfl, b2, b3, ra, hz, fun zs v rz rv => ?_⟩
            obtain ⟨ok2, s2⟩ := ok1.write e2 a1 rz
            exact hq v _ ⟨s.trans s2, ok2, rv.stay (s2.stay ok1)⟩
          · exact hq.elim
        · exact hq.elim
    · exact hq.elim
theorem de_mut0 (slot : Slot "list" name id) (hty : typeOf (.builtin id) = pure (.type "method_descriptor")) (hm : MtR X id (PrimL X m)) (h : PE X o (tVar i))
    (hbase : attributeBase o name X.env (eval o X.env) = eval o X.env := by rfl) (hline : (apos.endLine == cpos.line) = true := by rfl) :
    DE X (.Call (.Attribute o name apos) [] [] cpos) (fMutX i m []) := fun Γ =>
  peM (pe_bm0 PySem.F.plainAttrs_list slot hty hm h hbase hline) fun σ H Q hq => by
    obtain ⟨τ, ok, hq⟩ := hq
    unfold fMutX at hq
    split at hq
    · rename_i _ xs0 e0
      obtain ⟨p, ys, a1, a2, a3, _⟩ := ok.lstAt e0
      refine ⟨.ref p, a1, .inl ⟨rfl, ys, .inl (.inl a2)⟩, ?_⟩
      simp only [dsOf, R.bind] at hq
      rw [e0] at hq
      simp only at hq
      split at hq
      · rename_i zs d hz
        refine ⟨_, p, ys, xs0, [], zs, d, rfl, a2, a3, .nil, hz, fun ws v rz rv => ?_⟩
        obtain ⟨ok2, s2⟩ := ok.write e0 a1 rz
        exact hq v _ ⟨s2, ok2, rv.stay (s2.stay ok)⟩
      · exact hq.elim
    · exact hq.elim
end
/-! ### the methods -/
def mPopAt : List D → List D → Option (List D × D)
  | xs, [.int i] => if small i then match ixN xs.length i with
      | some k => (xs[k]?).map fun d => (xs.eraseIdx k, d)
      | none => none
    else none
  | _, _ => none
def mInsert : List D → List D → Option (List D × D)
  | xs, [.int i, d] => if xs.length < sizeLine ∧ 0 ≤ i ∧ i < 2 ^ 62 then some (xs.take i.toNat ++ [d] ++ xs.drop i.toNat, .non) else none
  | _, _ => none
def mReverse : List D → List D → Option (List D × D)
  | xs, [] => some (xs.reverse, .non)
  | _, _ => none
def mClear : List D → List D → Option (List D × D)
  | _, [] => some ([], .non)
  | _, _ => none
section
variable {X : Cx}
theorem RepA.eraseIdx {K : PySem.W.Frag} {mg : Str → Option Value} {O : As} {H : Hp} {vs : List V} {ds : List D} (h : RepA K mg O H vs ds) (k : Nat) : RepA K mg O H (vs.eraseIdx k) (ds.eraseIdx k) := by
  rw [List.eraseIdx_eq_take_drop_succ, List.eraseIdx_eq_take_drop_succ]
  exact (h.take k).append (h.drop (k + 1))
theorem small_iff {i : Int} (h : small i = true) : -(2 ^ 62) ≤ i ∧ i < 2 ^ 62 := by
  unfold small at h
  rw [Bool.and_eq_true] at h
  exact ⟨of_decide_eq_true h.1, of_decide_eq_true h.2⟩
theorem mt_popAtD : MtR X "list.pop" (PrimL X mPopAt) := fun pins s σ H x vs v us Q I rx rv h => by
  obtain ⟨O, l, xs, ds, as, es, d, rfl, hH, rx2, ra, hm, q⟩ := h
  unfold mPopAt at hm
  split at hm
  · rename_i i
    split at hm
    · rename_i hs
      split at hm
      · rename_i k hk
        obtain ⟨d', hd, hm⟩ := Option.map_eq_some_iff.mp hm
        cases hm
        cases ra with
        | cons r t =>
          cases t
          cases r
          obtain ⟨y, hy, ry⟩ := rx2.get hd
          rw [← rx2.length] at hk
          obtain ⟨k1, k2, k3, k4⟩ := ixN_seq hk
          obtain ⟨s1, s2⟩ := small_iff hs
          exact mt_popAt pins s σ H _ _ v us Q I rx rv ⟨l, xs, i, k, y, rfl, rfl, hH, by omega, by omega, k1, hy, q _ _ (rx2.eraseIdx k) ry⟩
      · cases hm
    · cases hm
  · cases hm
theorem mt_insertD : MtR X "list.insert" (PrimL X mInsert) := fun pins s σ H x vs v us Q I rx rv h => by
  obtain ⟨O, l, xs, ds, as, es, d, rfl, hH, rx2, ra, hm, q⟩ := h
  unfold mInsert at hm
  split at hm
  · rename_i i d'
    split at hm
    · rename_i hs
      cases hm
      cases ra with
      | cons r t =>
        cases t with
        | cons r2 t =>
          cases t
          cases r
          exact mt_insert pins s σ H _ _ v us Q I rx rv ⟨l, xs, i, _, rfl, rfl, hH, by rw [rx2.length]; exact hs.1, hs.2.1, by omega, q _ _ (((rx2.take _).append (.cons r2 .nil)).append (rx2.drop _)) .non⟩
    · cases hm
  · cases hm
theorem mt_reverseD : MtR X "list.reverse" (PrimL X mReverse) := fun pins s σ H x vs v us Q I rx rv h => by
  obtain ⟨O, l, xs, ds, as, es, d, rfl, hH, rx2, ra, hm, q⟩ := h
  unfold mReverse at hm
  split at hm
  · cases hm
    cases ra
    exact mt_reverse pins s σ H _ _ v us Q I rx rv ⟨l, xs, rfl, rfl, hH, q _ _ rx2.reverse .non⟩
  · cases hm
theorem mt_clearD : MtR X "list.clear" (PrimL X mClear) := fun pins s σ H x vs v us Q I rx rv h => by
  obtain ⟨O, l, xs, ds, as, es, d, rfl, hH, rx2, ra, hm, q⟩ := h
  unfold mClear at hm
  split at hm
  · cases hm
    cases ra
    exact mt_clear pins s σ H _ _ v us Q I rx rv ⟨l, xs, rfl, rfl, hH, q _ _ .nil .non⟩
  · cases hm
end
/-! ### upper, str -/
def pUpper : List D → Option RV
  | [.str a] => if a.length ≤ 5592405 then some ⟨.str (Txt.upper a), false⟩ else none
  | _ => none
def pStr : List D → Option RV
  | [.int i] => if i.natAbs.log2 < 1920 then some ⟨.str (toString i), false⟩ else none
  | [.str a] => some ⟨.str a, false⟩
  | _ => none
section
variable {X : Cx} {o : Expr} {A : Arg} {apos pos : Pos}
theorem de_upper (ho : DP X o A) (hbase : attributeBase o "upper" X.env (eval o X.env) = eval o X.env := by rfl) (hline : (apos.endLine == pos.line) = true := by rfl) :
    DE X (.Call (.Attribute o "upper" apos) [] [] pos) (fPrim pUpper [A]) := fun Γ => peM (pe_upper (ho Γ) hbase hline) fun σ H Q h => by
  have h1 := prim_one h
  obtain ⟨τ, ok, h1⟩ := h1
  refine ⟨τ, ok, ?_⟩
  cases e1 : fArg A τ with
  | bad => rw [e1] at h1; exact h1
  | ex e' τ' => rw [e1] at h1; exact h1
  | ok pk τ1 =>
    rw [e1] at h1
    intro v H1 s1 ok1 k1
    obtain ⟨O, ds, r, ra, hp, q⟩ := h1 v H1 s1 ok1 k1
    unfold pUpper at hp
    split at hp
    · split at hp
      · rename_i hz
        cases hp
        obtain ⟨x', e, r1⟩ := ra1 ra
        cases e
        cases rep_str r1
        exact ⟨⟨_, rfl⟩, _, rfl, rfl, hz, q _ _ (.same (.str _))⟩
      · cases hp
    · cases hp
theorem pc_str : PrimC X (.type "str") pStr := fun pins s σ H vs us Q I rv h => by
  obtain ⟨O, ds, r, ra, hp, q⟩ := h
  unfold pStr at hp
  split at hp
  · obtain ⟨x, rfl, r1⟩ := ra1 ra
    split at hp
    · rename_i hz
      cases hp
      cases rep_int r1
      exact call_str_int pins s σ H _ us Q I rv ⟨_, rfl, hz, q _ _ (.same (.str _))⟩
    · cases hp
  · obtain ⟨x, rfl, r1⟩ := ra1 ra
    cases hp
    cases rep_str r1
    exact SkE.call_str_str pins s σ H _ us Q I rv ⟨_, rfl, q _ _ (.same (.str _))⟩
  · cases hp
end
end Wt
set_option autoImplicit false
set_option Elab.async false
set_option linter.all false
set_option maxRecDepth 100000
set_option maxHeartbeats 2000000
/-! Wt.Zip: zip(a, b, strict=True) of lists and tuples of one length. -/
namespace Wt
namespace ZS
open PySem PySem.Spec PyProof.Rows L2
section
variable {P : Program} {w : World} {A : Around} {E : Value → Shared → Prop} {s : Shared}
abbrev IsZS (m : Heap) (z TI TO : Addr) (f : Value) : Prop :=
  m.get? z = some { cls := .type "zip", dict := none, data := .fields #[f, .bool false, .bool true, .ref TI, .ref TO], slots := #[] }
/-- of a list, of a tuple -/
inductive Ik where
  | l | t
def Ik.it : Ik → Heap → Addr → Addr → Nat → Prop
  | .l, m, i, a, n => m.IsListIter i a n
  | .t, m, i, a, n => m.IsTupleIter i a n
def Ik.sq : Ik → Heap → Addr → Array Value → Prop
  | .l, m, a, xs => m.IsList a xs
  | .t, m, a, xs => m.IsTuple a xs
theorem it_at {k : Ik} {m m' : Heap} {i a : Addr} {n : Nat} (x : k.it m i a n) (e : ∀ o, m.get? i = some o → m'.get? i = some o) : k.it m' i a n := by
  cases k with
  | l => exact Heap.IsListIter.at x e
  | t => exact Heap.IsTupleIter.at x e
theorem sq_at {k : Ik} {m m' : Heap} {a : Addr} {xs : Array Value} (x : k.sq m a xs) (e : ∀ o, m.get? a = some o → m'.get? a = some o) : k.sq m' a xs := by
  cases k with
  | l => obtain ⟨o, h1, h2⟩ := x; exact ⟨o, e o h1, h2⟩
  | t => obtain ⟨o, h1, h2⟩ := x; exact ⟨o, e o h1, h2⟩
theorem it_get {k : Ik} {m : Heap} {i a : Addr} {n : Nat} (x : k.it m i a n) : ∃ o, m.get? i = some o ∧ ∀ v q, o.data ≠ .seq v q := by
  cases k with
  | l => obtain ⟨o, h1, _, h3⟩ := x; exact ⟨o, h1, fun v q e => by rw [h3] at e; cases e⟩
  | t => obtain ⟨o, h1, _, h3⟩ := x; exact ⟨o, h1, fun v q e => by rw [h3] at e; cases e⟩
/-- the next item, or none -/
theorem draw_item {k : Ik} {i a : Addr} {n : Nat} {xs : Array Value} {x : Value} {Q : Option Value → Shared → Prop} (j : k.it s.heap i a n) (c : k.sq s.heap a xs) (hx : xs[n]? = some x)
    (q : ∀ m, k.it m i a (n + 1) → Heap.SameBut i s.heap m → Q (some x) { s with heap := m }) : wpAny (model P w) A (Builtin.SmallTypes.nextOrEnd (.ref i)) Q E s := by
  unfold Builtin.SmallTypes.nextOrEnd
  cases k with
  | l => exact wpAny_bind (wpAny_attempt (wpAny_nextOf_list_item j c hx fun m u v => wpAny_pure (q m u v)))
  | t => exact wpAny_bind (wpAny_attempt (RZ.nextOf_tuple_item j c hx fun m u v => wpAny_pure (q m u v)))
theorem draw_end {k : Ik} {i a : Addr} {n : Nat} {xs : Array Value} {Q : Option Value → Shared → Prop} (hd : A.handled = none) (j : k.it s.heap i a n) (c : k.sq s.heap a xs) (hx : xs[n]? = none)
    (q : ∀ m, Heap.ExtBut i s.heap m → Q none { s with heap := m }) : wpAny (model P w) A (Builtin.SmallTypes.nextOrEnd (.ref i)) Q E s := by
  unfold Builtin.SmallTypes.nextOrEnd
  cases k with
  | l => exact wpAny_bind (wpAny_attempt (wpAny_nextOf_list_end hd j c hx fun m e u ⟨o, h1, h2⟩ => wpAny_bind (wpAny_isInstance (T := "StopIteration") (b := true) ⟨o, h1, h2⟩ isSubtype_stop (wpAny_pure (q m u)))))
  | t => exact wpAny_bind (wpAny_attempt (RZ.nextOf_tuple_end hd j c hx fun m e u ⟨o, h1, h2⟩ => wpAny_bind (wpAny_isInstance (T := "StopIteration") (b := true) ⟨o, h1, h2⟩ isSubtype_stop (wpAny_pure (q m u)))))
theorem next_item {k1 k2 : Ik} {z TI TO i1 i2 l1 l2 : Addr} {n1 n2 : Nat} {xs ys : Array Value} {x y a b : Value} {Q : Value → Shared → Prop} (D : ZipApart z TI TO i1 i2 l1 l2)
    (gz : IsZS s.heap z TI TO .none) (gi : IsPair s.heap TI (.ref i1) (.ref i2)) (go : IsPair s.heap TO a b)
    (j1 : k1.it s.heap i1 l1 n1) (j2 : k2.it s.heap i2 l2 n2) (c1 : k1.sq s.heap l1 xs) (c2 : k2.sq s.heap l2 ys) (hx : xs[n1]? = some x) (hy : ys[n2]? = some y)
    (q : ∀ m, IsZS m z TI TO (rawInt s.heap.objs.size) → IsPair m TO x y → k1.it m i1 l1 (n1 + 1) → k2.it m i2 l2 (n2 + 1) → IsPair m s.heap.objs.size x y → m.objs.size = s.heap.objs.size + 1 →
      (∀ c o, c ≠ z → c ≠ TO → c ≠ i1 → c ≠ i2 → s.heap.get? c = some o → m.get? c = some o) → Q (.ref s.heap.objs.size) { s with heap := m }) :
    wpAny (model P w) A (Builtin.«zip.__next__» ⟨[.ref z], []⟩) (fun f s' => ∃ v, f = .done (.ret v) ∧ Q v s') E s := by
  show wpAny _ _ (field (.ref z) 2 >>= _) _ E s
  refine wpAny_bind (wpAny_field gz rfl (x := .bool true) rfl ?_)
  show wpAny _ _ (field (.ref z) 3 >>= _) _ E s
  refine wpAny_bind (wpAny_field gz rfl (x := .ref TI) rfl ?_)
  refine wpAny_bind (wpAny_seqItems gi rfl ?_)
  show wpAny _ _ (Builtin.SmallTypes.ownedTupleIsFree (.ref z) >>= _) _ E s
  refine wpAny_bind ?_
  unfold Builtin.SmallTypes.ownedTupleIsFree
  refine wpAny_bind (wpAny_field gz rfl (x := .none) rfl (wpAny_pure ?_))
  simp only [if_true]
  refine wpAny_bind (wpAny_rule ?_)
  refine wpAny_bind (wpAny_field gz rfl (x := .ref TO) rfl ?_)
  refine wpAny_bind (wpAny_setField_rec gz (by simp) fun m1 gz1 b1 => ?_)
  replace gz1 : IsZS m1 z TI TO .ellipsis := gz1
  refine wpAny_bind ?_
  simp only [List.zipIdx_cons, List.zipIdx_nil, List.forIn_cons, List.forIn_nil]
  refine wpAny_bind (wpAny_bind (wpAny_onRaise ?_))
  show wpAny _ _ (Builtin.SmallTypes.nextOrEnd (.ref i1)) _ _ _
  refine draw_item (it_at j1 fun o e => b1.2 _ D.i1z |>.trans e) (sq_at c1 fun o e => b1.2 _ D.l1z |>.trans e) hx fun m2 j12 b2 => ?_
  have go2 : IsPair m2 TO a b := b2.extBut _ _ D.TOi1 (b1.extBut _ _ D.TOz go)
  refine wpAny_bind (wpAny_seqItems go2 rfl ?_)
  refine wpAny_bind (wpAny_updateSeq_pair go2 fun m3 go3 b3 => ?_)
  replace go3 : IsPair m3 TO x b := go3
  refine wpAny_bind (wpAny_letGo (wpAny_pure ?_))
  refine wpAny_bind (wpAny_bind (wpAny_onRaise ?_))
  show wpAny _ _ (Builtin.SmallTypes.nextOrEnd (.ref i2)) _ _ _
  have up3 : ∀ c o, c ≠ z → c ≠ i1 → c ≠ TO → s.heap.get? c = some o → m3.get? c = some o := fun c o q1 q2 q3 e => b3.extBut _ _ q3 (b2.extBut _ _ q2 (b1.extBut _ _ q1 e))
  refine draw_item (it_at j2 fun o e => up3 _ o D.i2z D.i12.symm D.TOi2.symm e) (sq_at c2 fun o e => up3 _ o D.l2z D.l2i1 D.l2TO e) hy fun m4 j24 b4 => ?_
  have go4 : IsPair m4 TO x b := b4.extBut _ _ D.TOi2 go3
  refine wpAny_bind (wpAny_seqItems go4 rfl ?_)
  refine wpAny_bind (wpAny_updateSeq_pair go4 fun m5 go5 b5 => ?_)
  replace go5 : IsPair m5 TO x y := go5
  refine wpAny_bind (wpAny_letGo (wpAny_pure (wpAny_pure ?_)))
  refine wpAny_bind (wpAny_seqItems go5 rfl ?_)
  refine wpAny_bind (wpAny_newTuple ?_)
  have hsz : m5.objs.size = s.heap.objs.size := by rw [b5.1, b4.1, b3.1, b2.1, b1.1]
  have gz5 : IsZS m5 z TI TO .ellipsis := b5.extBut _ _ D.TOz.symm (b4.extBut _ _ D.i2z.symm (b3.extBut _ _ D.TOz.symm (b2.extBut _ _ D.i1z.symm gz1)))
  have up5 : ∀ c o, c ≠ z → c ≠ TO → c ≠ i1 → c ≠ i2 → s.heap.get? c = some o → m5.get? c = some o := fun c o q1 q2 q3 q4 e => b5.extBut _ _ q2 (b4.extBut _ _ q4 (up3 c o q1 q3 q2 e))
  have j15 : k1.it m5 i1 l1 (n1 + 1) := it_at j12 fun o e => b5.extBut _ _ D.TOi1.symm (b4.extBut _ _ D.i12 (b3.extBut _ _ D.TOi1.symm e))
  have j25 : k2.it m5 i2 l2 (n2 + 1) := it_at j24 fun o e => b5.extBut _ _ D.TOi2.symm e
  have zlt : z < m5.objs.size := Heap.lt_size gz5
  show wpAny _ _ (Builtin.SmallTypes.ownedTupleHandOut (.ref z) (.ref m5.objs.size) >>= _) _ E _
  refine wpAny_bind ?_
  unfold Builtin.SmallTypes.ownedTupleHandOut
  have gz6 : IsZS (m5.push { cls := .type "tuple", data := .seq #[x, y] }) z TI TO .ellipsis := Heap.get?_push_of_some _ gz5
  refine wpAny_bind (wpAny_setField_rec gz6 (by simp) fun m7 gz7 b7 => ?_)
  replace gz7 : IsZS m7 z TI TO (rawInt m5.objs.size) := gz7
  refine wpAny_setField_rec gz7 (by simp) fun m8 gz8 b8 => ?_
  replace gz8 : IsZS m8 z TI TO (rawInt m5.objs.size) := gz8
  have up : ∀ c o, c ≠ z → m5.get? c = some o → m8.get? c = some o := fun c o q1 e => b8.extBut _ _ q1 (b7.extBut _ _ q1 (Heap.get?_push_of_some _ e))
  have gT : IsPair m8 m5.objs.size x y := b8.extBut _ _ (Nat.ne_of_gt zlt) (b7.extBut _ _ (Nat.ne_of_gt zlt) (Heap.get?_push_size _ rfl))
  have gs : m8.objs.size = m5.objs.size + 1 := by rw [b8.1, b7.1, Heap.size_push]
  rw [hsz] at gz8 gT gs
  refine wpAny_pure ⟨_, rfl, ?_⟩
  show Q (.ref m5.objs.size) _
  rw [hsz]
  exact q m8 gz8 (up _ _ D.TOz go5) (it_at j15 fun o e => up _ o D.i1z e) (it_at j25 fun o e => up _ o D.i2z e) gT gs fun c o q1 q2 q3 q4 e => up c o q1 (up5 c o q1 q2 q3 q4 e)
theorem next_end {k1 k2 : Ik} {z TI TO i1 i2 l1 l2 : Addr} {n1 n2 : Nat} {xs ys : Array Value} {a b : Value} {Q : Fin → Shared → Prop} (hd : A.handled = none) (D : ZipApart z TI TO i1 i2 l1 l2)
    (gz : IsZS s.heap z TI TO .none) (gi : IsPair s.heap TI (.ref i1) (.ref i2)) (go : IsPair s.heap TO a b)
    (j1 : k1.it s.heap i1 l1 n1) (j2 : k2.it s.heap i2 l2 n2) (c1 : k1.sq s.heap l1 xs) (c2 : k2.sq s.heap l2 ys) (hx : xs[n1]? = none) (hy : ys[n2]? = none)
    (q : ∀ m e, (∀ c o, c ≠ z → c ≠ TO → c ≠ i1 → c ≠ i2 → s.heap.get? c = some o → m.get? c = some o) → (∃ o, m.get? e = some o ∧ o.cls = .type "StopIteration") → E (.ref e) { s with heap := m }) :
    wpAny (model P w) A (Builtin.«zip.__next__» ⟨[.ref z], []⟩) Q E s := by
  show wpAny _ _ (field (.ref z) 2 >>= _) Q E s
  refine wpAny_bind (wpAny_field gz rfl (x := .bool true) rfl ?_)
  show wpAny _ _ (field (.ref z) 3 >>= _) Q E s
  refine wpAny_bind (wpAny_field gz rfl (x := .ref TI) rfl ?_)
  refine wpAny_bind (wpAny_seqItems gi rfl ?_)
  show wpAny _ _ (Builtin.SmallTypes.ownedTupleIsFree (.ref z) >>= _) Q E s
  refine wpAny_bind ?_
  unfold Builtin.SmallTypes.ownedTupleIsFree
  refine wpAny_bind (wpAny_field gz rfl (x := .none) rfl (wpAny_pure ?_))
  simp only [if_true]
  refine wpAny_bind (wpAny_rule ?_)
  refine wpAny_bind (wpAny_field gz rfl (x := .ref TO) rfl ?_)
  refine wpAny_bind (wpAny_setField_rec gz (by simp) fun m1 gz1 b1 => ?_)
  replace gz1 : IsZS m1 z TI TO .ellipsis := gz1
  refine wpAny_bind ?_
  simp only [List.zipIdx_cons, List.zipIdx_nil, List.forIn_cons, List.forIn_nil]
  refine wpAny_bind (wpAny_bind (wpAny_onRaise ?_))
  show wpAny _ _ (Builtin.SmallTypes.nextOrEnd (.ref i1)) _ _ _
  refine draw_end hd (it_at j1 fun o e => b1.2 _ D.i1z |>.trans e) (sq_at c1 fun o e => b1.2 _ D.l1z |>.trans e) hx fun m2 b2 => ?_
  have gz2 : IsZS m2 z TI TO .ellipsis := b2 _ _ D.i1z.symm gz1
  refine wpAny_bind (wpAny_setField_rec gz2 (by simp) fun m3 gz3 b3 => ?_)
  refine wpAny_bind ?_
  show wpAny _ _ (_ >>= _) _ _ _
  refine wpAny_bind ?_
  simp only [List.drop_succ_cons, List.drop_zero, List.zipIdx_cons, List.zipIdx_nil, List.forIn_cons, List.forIn_nil]
  have up3 : ∀ c o, c ≠ z → c ≠ i1 → s.heap.get? c = some o → m3.get? c = some o := fun c o q1 q2 e => b3.extBut _ _ q1 (b2 _ _ q2 (b1.extBut _ _ q1 e))
  refine wpAny_bind (wpAny_bind (draw_end hd (it_at j2 fun o e => up3 _ o D.i2z D.i12.symm e) (sq_at c2 fun o e => up3 _ o D.l2z D.l2i1 e) hy fun m4 b4 => ?_))
  refine wpAny_pure (wpAny_pure (wpAny_bind (wpAny_rule ?_)))
  show wpAny _ _ (newExc (.type "StopIteration") [] >>= fun e => (raiseNew e : Sem Fin)) _ _ _
  refine wpAny_bind ?_
  simp only [newExc, newTuple]
  refine wpAny_bind (wpAny_newObj_type ?_ (by size_fits))
  refine wpAny_bind (m := firstArgMember _ _) (wpAny_of_eq (a := Value.none) (by first | rfl | (simp only [firstArgMember]; rfl)) ?_)
  refine wpAny_newObj_type ?_ (by size_fits)
  refine wpAny_raiseNew_none hd ?_
  exact q _ _ (fun c o q1 q2 q3 q4 e => Heap.get?_push_of_some _ (Heap.get?_push_of_some _ (b4 _ _ q4 (up3 c o q1 q3 e)))) ⟨_, Heap.get?_push_size _ rfl, rfl⟩
theorem py_item {k1 k2 : Ik} {z TI TO i1 i2 l1 l2 : Addr} {n1 n2 : Nat} {xs ys : Array Value} {x y a b : Value} {Q : Option Value → Shared → Prop} (D : ZipApart z TI TO i1 i2 l1 l2)
    (gz : IsZS s.heap z TI TO .none) (gi : IsPair s.heap TI (.ref i1) (.ref i2)) (go : IsPair s.heap TO a b)
    (j1 : k1.it s.heap i1 l1 n1) (j2 : k2.it s.heap i2 l2 n2) (c1 : k1.sq s.heap l1 xs) (c2 : k2.sq s.heap l2 ys) (hx : xs[n1]? = some x) (hy : ys[n2]? = some y)
    (q : ∀ m, IsZS m z TI TO (rawInt s.heap.objs.size) → IsPair m TO x y → k1.it m i1 l1 (n1 + 1) → k2.it m i2 l2 (n2 + 1) → IsPair m s.heap.objs.size x y → m.objs.size = s.heap.objs.size + 1 →
      (∀ c o, c ≠ z → c ≠ TO → c ≠ i1 → c ≠ i2 → s.heap.get? c = some o → m.get? c = some o) → Q (some (.ref s.heap.objs.size)) { s with heap := m }) : wpAny (model P w) A (pyNext (.ref z)) Q E s := by
  have ht : s.TypeIs (.ref z) "zip" := ⟨_, gz, rfl⟩
  unfold pyNext
  exact wpAny_bind (wpAny_attempt (wpAny_callSpecial?_slot (name := Str.ofString "__next__") ht F.slot_zip_next (wpAny_call_entry F.slot_zip_next ht F.entry_zip_next
    (next_item D gz gi go j1 j2 c1 c2 hx hy fun m a1 a2 a3 a4 a5 a6 a7 => wpAny_pure (q m a1 a2 a3 a4 a5 a6 a7)) (F.args_zip_next_1 _))))
theorem py_end {k1 k2 : Ik} {z TI TO i1 i2 l1 l2 : Addr} {n1 n2 : Nat} {xs ys : Array Value} {a b : Value} {Q : Option Value → Shared → Prop} (hd : A.handled = none) (D : ZipApart z TI TO i1 i2 l1 l2)
    (gz : IsZS s.heap z TI TO .none) (gi : IsPair s.heap TI (.ref i1) (.ref i2)) (go : IsPair s.heap TO a b)
    (j1 : k1.it s.heap i1 l1 n1) (j2 : k2.it s.heap i2 l2 n2) (c1 : k1.sq s.heap l1 xs) (c2 : k2.sq s.heap l2 ys) (hx : xs[n1]? = none) (hy : ys[n2]? = none)
    (q : ∀ m, (∀ c o, c ≠ z → c ≠ TO → c ≠ i1 → c ≠ i2 → s.heap.get? c = some o → m.get? c = some o) → Q none { s with heap := m }) : wpAny (model P w) A (pyNext (.ref z)) Q E s := by
  have ht : s.TypeIs (.ref z) "zip" := ⟨_, gz, rfl⟩
  unfold pyNext
  exact wpAny_bind (wpAny_attempt (wpAny_callSpecial?_slot (name := Str.ofString "__next__") ht F.slot_zip_next (wpAny_call_entry F.slot_zip_next ht F.entry_zip_next
    (next_end (A := A.in1) hd D gz gi go j1 j2 c1 c2 hx hy fun m e u ⟨o, h1, h2⟩ => wpAny_bind (wpAny_isInstance (T := "StopIteration") (b := true) ⟨o, h1, h2⟩ isSubtype_stop (wpAny_pure (q m u)))) (F.args_zip_next_1 _))))
theorem let_go {elts : List Expr} {kk : Nat} {pos : Pos} {z TI TO T : Addr} {Q : Unit → Shared → Prop} (gz : IsZS s.heap z TI TO (rawInt T)) (q : ∀ m, IsZS m z TI TO .none → Heap.SameBut z s.heap m → Q () { s with heap := m }) :
    wpAny (model P w) A (letOwnedTupleGo (.Tuple elts kk pos) (.ref z) (.ref T)) Q E s := by
  unfold letOwnedTupleGo
  refine wpAny_bind (wpAny_load gz ?_)
  show wpAny _ _ (if (["enumerate", "zip", "dict_itemiterator", "dict_reverseitemiterator", "odict_iterator", "itertools.zip_longest", "itertools.pairwise"].contains "zip" && (#[rawInt T, .bool false, .bool true, .ref TI, .ref TO] : Array Value)[0]? == some (rawInt T)) = true then _ else _) Q E s
  rw [if_pos (by simp)]
  refine wpAny_bind (wpAny_rule ?_)
  show wpAny _ _ (setField (.ref z) 0 .none) _ E s
  exact wpAny_setField_rec gz (by simp) fun m g b => q m g b
theorem py_iter {z TI TO : Addr} {f : Value} {Q : Value → Shared → Prop} (gz : IsZS s.heap z TI TO f) (q : Q (.ref z) s) : wpAny (model P w) A (pyIter (.ref z)) Q E s := by
  have ht : s.TypeIs (.ref z) "zip" := ⟨_, gz, rfl⟩
  refine wpAny_pyIter_slot ht F.slot_zip_iter (wpAny_call_entry F.slot_zip_iter ht F.entry_zip_iter ?_ (F.args_zip_iter_1 _))
  exact wpAny_pure ⟨_, rfl, "zip", _, ht, F.slot_zip_next.lookup, q⟩
end
/-! ### the call -/
theorem tc_strict (a b c : Value) : checkTypeCall "zip" ⟨[a, b], [(Str.ofString "strict", c)]⟩ = pure () := by kernel_rfl
theorem nc_strict (a b c : Value) : checkBuiltinCall "zip.__new__" ⟨[.type "zip", a, b], [(Str.ofString "strict", c)]⟩ = pure () := by kernel_rfl
theorem ao_strict (o a b c : Value) : argsOk "object.__init__" ⟨[o, a, b], [(Str.ofString "strict", c)]⟩ := by unfold argsOk; kernel_rfl
abbrev hp3 (m : Heap) (o1 o2 : Obj) : Heap := ((m.push o1).push o2).push { cls := .type "tuple", data := .seq #[.ref m.objs.size, .ref (m.push o1).objs.size] }
abbrev hp4 (m : Heap) (o1 o2 : Obj) : Heap := (hp3 m o1 o2).push { cls := .type "tuple", data := .seq #[.none, .none] }
abbrev hp5 (m : Heap) (o1 o2 : Obj) : Heap := (hp4 m o1 o2).push { cls := .type "zip", data := .fields #[.none, .bool false, .bool true, .ref ((m.push o1).push o2).objs.size, .ref (hp3 m o1 o2).objs.size] }
theorem meets_new {v1 v2 : Value} {o1 o2 : Obj} {H1 H2 : Heap → Prop} (B1 : Begins v1 o1 H1) (B2 : Begins v2 o2 H2) :
    Meets (Builtin.«zip.__new__» ⟨[.type "zip", v1, v2], [(Str.ofString "strict", .bool true)]⟩) (fun _ R s => H1 s.heap ∧ H2 s.heap ∧ R (.ok (.ret (.ref (hp4 s.heap o1 o2).objs.size))) { s with heap := hp5 s.heap o1 o2 }) :=
  .of_wp fun prog w A R s h => by
    obtain ⟨hp, g, d, tk, os⟩ := s
    obtain ⟨h1, h2, h⟩ := h
    have hsub := sub_zip
    have q1 : ∀ {A' : Around} {E Q : Value → Shared → Prop}, Q (.ref hp.objs.size) ⟨hp.push o1, g, d, tk, os⟩ → wpAny (model prog w) A' (pyIter v1) Q E ⟨hp, g, d, tk, os⟩ :=
      fun q => B1.iter prog w _ _ ⟨hp, g, d, tk, os⟩ _ h1 q
    have q2 : ∀ {A' : Around} {E Q : Value → Shared → Prop}, Q (.ref (hp.push o1).objs.size) ⟨(hp.push o1).push o2, g, d, tk, os⟩ → wpAny (model prog w) A' (pyIter v2) Q E ⟨hp.push o1, g, d, tk, os⟩ :=
      fun q => B2.iter prog w _ _ ⟨hp.push o1, g, d, tk, os⟩ _ (B2.keeps _ _ h2 fun b o' e => Heap.get?_push_of_some _ e) q
    have e1 : (Str.ofString "strict" != ("strict" : Str)) = false := by decide +kernel
    wp_walk using q1, q2
    exact ⟨_, rfl, h⟩
section
variable {P : Program} {w : World} {A : Around} {E : Value → Shared → Prop} {s : Shared}
/-- its five new cells -/
theorem call_new {v1 v2 : Value} {o1 o2 : Obj} {H1 H2 : Heap → Prop} {Q : Value → Shared → Prop} (B1 : Begins v1 o1 H1) (B2 : Begins v2 o2 H2) (h1 : H1 s.heap) (h2 : H2 s.heap)
    (h : ∀ m, IsZS m (s.heap.objs.size + 4) (s.heap.objs.size + 2) (s.heap.objs.size + 3) .none → IsPair m (s.heap.objs.size + 2) (.ref s.heap.objs.size) (.ref (s.heap.objs.size + 1)) → IsPair m (s.heap.objs.size + 3) .none .none →
      m.get? s.heap.objs.size = some o1 → m.get? (s.heap.objs.size + 1) = some o2 → (∀ c o, s.heap.get? c = some o → m.get? c = some o) → Q (.ref (s.heap.objs.size + 4)) { s with heap := m }) :
    wpAny (model P w) A (call (.type "zip") [v1, v2] [(Str.ofString "strict", .bool true)]) Q E s := by
  refine callType_newKw F.called_zip (by decide) (tc_strict _ _ _) (nc_strict _ _ _) (fun o => ao_strict o _ _ _) F.entry_zip_new (meets_new B1 B2) ⟨h1, h2, ?_⟩
  have n1 : (s.heap.push o1).objs.size = s.heap.objs.size + 1 := Heap.size_push ..
  have n2 : ((s.heap.push o1).push o2).objs.size = s.heap.objs.size + 2 := by rw [Heap.size_push, n1]
  have n3 : (hp3 s.heap o1 o2).objs.size = s.heap.objs.size + 3 := by rw [Heap.size_push, n2]
  have n4 : (hp4 s.heap o1 o2).objs.size = s.heap.objs.size + 4 := by rw [Heap.size_push, n3]
  have t5 : (hp5 s.heap o1 o2).get? (hp4 s.heap o1 o2).objs.size = some { cls := .type "zip", data := .fields #[.none, .bool false, .bool true, .ref ((s.heap.push o1).push o2).objs.size, .ref (hp3 s.heap o1 o2).objs.size] } := Heap.get?_push_size _ rfl
  have t4 : (hp5 s.heap o1 o2).get? (hp3 s.heap o1 o2).objs.size = some { cls := .type "tuple", data := .seq #[.none, .none] } := Heap.get?_push_of_some _ (Heap.get?_push_size _ rfl)
  have t3 : (hp5 s.heap o1 o2).get? ((s.heap.push o1).push o2).objs.size = some { cls := .type "tuple", data := .seq #[.ref s.heap.objs.size, .ref (s.heap.push o1).objs.size] } := Heap.get?_push_of_some _ (Heap.get?_push_of_some _ (Heap.get?_push_size _ rfl))
  have t2 : (hp5 s.heap o1 o2).get? (s.heap.push o1).objs.size = some o2 := Heap.get?_push_of_some _ (Heap.get?_push_of_some _ (Heap.get?_push_of_some _ (Heap.get?_push_size _ B2.free)))
  have t1 : (hp5 s.heap o1 o2).get? s.heap.objs.size = some o1 := Heap.get?_push_of_some _ (Heap.get?_push_of_some _ (Heap.get?_push_of_some _ (Heap.get?_push_of_some _ (Heap.get?_push_size _ B1.free))))
  rw [n4, n3, n2] at t5
  rw [n3] at t4
  rw [n2, n1] at t3
  rw [n1] at t2
  show _ ∧ _
  rw [n4]
  exact ⟨⟨_, t5, rfl⟩, h _ t5 t3 t4 t1 t2 fun c o e => Heap.get?_push_of_some _ (Heap.get?_push_of_some _ (Heap.get?_push_of_some _ (Heap.get?_push_of_some _ (Heap.get?_push_of_some _ e))))⟩
end
/-! ### the walk -/
def Ik.S (K : PySem.W.Frag) : Ik → Hp → Addr → List V → Prop
  | .l, H, a, xs => SqL K H a xs
  | .t, H, a, xs => SqT K H a xs
theorem S_real {X : Cx} {pins : List (Addr × Obj)} {σ : L2.St} {H : Hp} {s : Shared} {k : Ik} {a : Addr} {xs : List V} (I : Inv X pins σ H s) (h : k.S X.K H a xs) : ∃ its, Vals xs its ∧ k.sq s.heap a its.toArray := by
  cases k with
  | l => obtain ⟨its, rv, p, _⟩ := I.list h; exact ⟨its, rv, p.isList⟩
  | t => obtain ⟨its, rv, p, _⟩ := I.tuple h; exact ⟨its, rv, p⟩
theorem S_inj {X : Cx} {pins : List (Addr × Obj)} {σ : L2.St} {H : Hp} {s : Shared} {k : Ik} {a : Addr} {xs ys : List V} (I : Inv X pins σ H s) (h : k.S X.K H a xs) (g : k.S X.K H a ys) : xs = ys := by
  cases k with
  | l => exact I.list_inj h g
  | t => exact I.tuple_inj h g
/-- both as they stand at each turn, the items in new pairs -/
def ItS (K : PySem.W.Frag) (k1 k2 : Ik) (a b : Addr) : L2.It :=
  ⟨fun i H => ∃ (xs ys : List V) (x y : V), k1.S K H a xs ∧ k2.S K H b ys ∧ xs[i]? = some x ∧ ys[i]? = some y,
    fun i H v H' => ∃ T x y, v = .ref T ∧ H T = none ∧ H' = upd H T (.tup [x, y]) ∧ (∀ xs, k1.S K H a xs → xs[i]? = some x) ∧ ∀ ys, k2.S K H b ys → ys[i]? = some y,
    fun i H => ∃ xs ys : List V, k1.S K H a xs ∧ k2.S K H b ys ∧ xs.length ≤ i ∧ ys.length ≤ i⟩
theorem turn_zs {P : Program} {w : World} {K : PySem.W.Frag} {elts : List Expr} {kk : Nat} {tpos : Pos} {k1 k2 : Ik} {a b z TI TO i1 i2 : Addr} (D : ZipApart z TI TO i1 i2 a b) :
    Turn P w K (.Tuple elts kk tpos) (ItS K k1 k2 a b) [z, TI, TO, i1, i2] z (fun i m => IsZS m z TI TO .none ∧ IsPair m TI (.ref i1) (.ref i2) ∧ (∃ x y, IsPair m TO x y) ∧ k1.it m i1 a i ∧ k2.it m i2 b i) where
  mem := by simp
  obj := fun i m st c hc => by
    obtain ⟨gz, gi, ⟨x, y, go⟩, j1, j2⟩ := st
    have e' : c = z ∨ c = TI ∨ c = TO ∨ c = i1 ∨ c = i2 := by simpa using hc
    rcases e' with q | q | q | q | q
    · rw [q]; exact ⟨_, gz, fun v q => nomatch q⟩
    · rw [q]; exact ⟨_, gi, fun v q => nomatch q⟩
    · rw [q]; exact ⟨_, go, fun v q => nomatch q⟩
    · rw [q]
      cases k1 with
      | l => obtain ⟨o, e1, _, d1⟩ := j1; exact ⟨o, e1, fun v q => by rw [d1] at q; cases q⟩
      | t => obtain ⟨o, e1, _, d1⟩ := j1; exact ⟨o, e1, fun v q => by rw [d1] at q; cases q⟩
    · rw [q]
      cases k2 with
      | l => obtain ⟨o, e1, _, d1⟩ := j2; exact ⟨o, e1, fun v q => by rw [d1] at q; cases q⟩
      | t => obtain ⟨o, e1, _, d1⟩ := j2; exact ⟨o, e1, fun v q => by rw [d1] at q; cases q⟩
  keep := fun i m m' st k => by
    obtain ⟨gz, gi, ⟨x, y, go⟩, j1, j2⟩ := st
    exact ⟨k z (by simp) _ gz, k TI (by simp) _ gi, ⟨x, y, k TO (by simp) _ go⟩, it_at j1 fun o q => k i1 (by simp) o q, it_at j2 fun o q => k i2 (by simp) o q⟩
  item := by
    intro X hP hw hK hc i pins s σ H E I hf st hg
    subst hP hw hK
    obtain ⟨gz, gi, ⟨x0, y0, go⟩, j1, j2⟩ := st
    obtain ⟨xs, ys, x, y, hqx, hqy, hx, hy⟩ := hg
    obtain ⟨its, rv, c1⟩ := S_real I hqx
    obtain ⟨its2, rv2, c2⟩ := S_real I hqy
    obtain ⟨u, hu, ru⟩ := rv.get hx
    obtain ⟨u2, hu2, ru2⟩ := rv2.get hy
    have zl : z < s.heap.objs.size := Heap.lt_size gz
    refine py_item D gz gi go j1 j2 c1 c2 (x := u) (y := u2) (by simpa using hu) (by simpa using hu2) fun m g1 g2 g3 g4 g5 g6 g7 => ?_
    refine ⟨_, rfl, let_go (s := { s with heap := m }) g1 fun m2 gz2 sb => ?_⟩
    have gT : m2.get? s.heap.objs.size = some { cls := .type "tuple", data := .seq #[u, u2] } := (sb.2 _ (Nat.ne_of_gt zl)).trans g5
    have new : ObjOk X.prog X.w (upd H s.heap.objs.size (.tup [x, y])) m2 s.heap.objs.size (.tup [x, y]) :=
      ⟨by show 2 ≤ sizeLine; decide, [u, u2], .cons ru (.cons ru2 .nil), ⟨_, gT, rfl, _, rfl⟩⟩
    have I1 : Inv X pins σ (upd H s.heap.objs.size (.tup [x, y])) { s with heap := m2 } :=
      I.turnedNew (t' := s.toks) (ch := [z, TI, TO, i1, i2]) (fun c o hb q => (sb.2 c (fun q' => hb (by simp [q']))).trans (g7 c o (fun q' => hb (by simp [q'])) (fun q' => hb (by simp [q'])) (fun q' => hb (by simp [q'])) (fun q' => hb (by simp [q'])) q)) hf (Nat.le_refl _) new
    refine ⟨.ref s.heap.objs.size, _, I1, rfl, ⟨_, x, y, rfl, I.hok.fresh (Nat.le_refl _), rfl, fun l hl => by rw [S_inj I hl hqx]; exact hx, fun l hl => by rw [S_inj I hl hqy]; exact hy⟩, ⟨gz2, ?_, ⟨u, u2, ?_⟩, ?_, ?_⟩, fun c hcm => ?_⟩
    · exact (sb.2 _ D.TIz).trans (g7 _ _ D.TIz D.TITO D.TIi1 D.TIi2 gi)
    · exact (sb.2 _ D.TOz).trans g2
    · exact it_at g3 fun o q => (sb.2 _ D.i1z).trans q
    · exact it_at g4 fun o q => (sb.2 _ D.i2z).trans q
    · have hlt : c < s.heap.objs.size := by
        have e' : c = z ∨ c = TI ∨ c = TO ∨ c = i1 ∨ c = i2 := by simpa using hcm
        rcases e' with q | q | q | q | q
        · rw [q]; exact zl
        · rw [q]; exact Heap.lt_size gi
        · rw [q]; exact Heap.lt_size go
        · rw [q]; obtain ⟨_, e1, _⟩ := it_get j1; exact Heap.lt_size e1
        · rw [q]; obtain ⟨_, e2, _⟩ := it_get j2; exact Heap.lt_size e2
      rw [upd_ne (Nat.ne_of_lt hlt)]
      exact (hf c hcm).1
  done := by
    intro X hP hw hK hc i pins s σ H E I hf st hg
    subst hP hw hK
    obtain ⟨gz, gi, ⟨x0, y0, go⟩, j1, j2⟩ := st
    obtain ⟨xs, ys, hqx, hqy, he1, he2⟩ := hg
    obtain ⟨its, rv, c1⟩ := S_real I hqx
    obtain ⟨its2, rv2, c2⟩ := S_real I hqy
    have l1 := rv.length
    have l2 := rv2.length
    exact py_end (I.ok.hd hc) D gz gi go j1 j2 c1 c2 (by simp; omega) (by simp; omega) fun m hk => ⟨rfl, I.turnedL (t' := s.toks) (ch := [z, TI, TO, i1, i2]) (fun c o hb q =>
      hk c o (fun q' => hb (by simp [q'])) (fun q' => hb (by simp [q'])) (fun q' => hb (by simp [q'])) (fun q' => hb (by simp [q'])) q) hf⟩
  self := fun A i s Q E st h => py_iter st.1 h
theorem begins_k {X : Cx} {pins : List (Addr × Obj)} {σ : L2.St} {H : Hp} {s : Shared} {k : Ik} {a : Addr} {xs : List V} (I : Inv X pins σ H s) (h : k.S X.K H a xs) :
    ∃ (its : Array Value) (o : Obj), Begins (.ref a) o (fun m => k.sq m a its) ∧ k.sq s.heap a its ∧ a < s.heap.objs.size ∧ ∀ (m : Heap) (i : Addr), m.get? i = some o → k.it m i a 0 := by
  cases k with
  | l =>
    obtain ⟨its, rv, p, _⟩ := I.list h
    exact ⟨_, _, begins_list a its.toArray, p.isList, p.lt, fun m i e => ⟨_, e, rfl, rfl⟩⟩
  | t =>
    obtain ⟨its, rv, p, _⟩ := I.tuple h
    obtain ⟨o1, ho1, _⟩ := id p
    exact ⟨_, _, begins_tuple a its.toArray, p, Heap.lt_size ho1, fun m i e => ⟨_, e, rfl, rfl⟩⟩
def iZipS (K : PySem.W.Frag) (ta : TA) : TI := fun σ H R => ta σ H fun vs H1 => ∃ k1 k2 a b xs ys, vs = [.ref a, .ref b] ∧ Ik.S K k1 H1 a xs ∧ Ik.S K k2 H1 b ys ∧ R (ItS K k1 k2 a b) H1
theorem cw_type {M : Model} {A : Around} {E : Value → Shared → Prop} {s : Shared} {env : Env} {pos : Pos} {T : String} {e : Expr} {rest : List Expr} {kws : List Keyword} {Q : Value → Shared → Prop}
    (h : wpAny M A (spliced (backTo pos (starEach (e :: rest) env))) (fun vs s1 => wpAny M A (evalAll ((backToKw pos (keywordEach kws env)).map (·.2))) (fun ws s2 => wpAny M A (call (.type T) vs (((backToKw pos (keywordEach kws env)).filterMap (·.1)).zip ws)) Q E s2) E s1) E s)
    (he : backTo pos (starEach (e :: rest) env) = (false, eval e env) :: backTo pos (starEach rest env)) (h1 : (backTo pos (starEach (e :: rest) env)).any (·.1) = false)
    (h2 : (backToKw pos (keywordEach kws env)).all (·.1.isSome) = true) (h3 : (backToKw pos (keywordEach kws env)).any (·.1.isNone) = false) :
    wpAny M A (callWith pos (.type T) [] (backTo pos (starEach (e :: rest) env)) (backToKw pos (keywordEach kws env))) Q E s := by
  have go : wpAny M A (evalArgs (.type T) true (backTo pos (starEach (e :: rest) env)) (backToKw pos (keywordEach kws env))) (fun a s1 => wpAny M A (call (.type T) ([] ++ a.pos) a.kw) Q E s1) E s := by
    rw [he] at h ⊢
    exact evalArgs_kwB h2 h
  unfold callWith
  refine wpAny_bind (wpAny_holding (wpAny_mono go (fun a s1 g => wpAny_bind (wpAny_standAt ?_)) fun _ _ x => x))
  simp only [h1, h3, Bool.or_false]
  exact wpAny_bind (wpAny_pure (wpAny_bind (wpAny_mono g (fun r s2 hr => wpAny_bind (wpAny_holding (wpAny_point (wpAny_pure hr)))) fun _ _ x => x)))
theorem pi_zipS {X : Cx} {e e2 : Expr} {ta : TA} {p pos tpos p3 p4 : Pos} {kc : Nat} {elts : List Expr} {kk : Nat} (hg : Gl X "zip") (hm : X.mg "zip" = none) (ha : PA X [e, e2] ta)
    (he : backTo pos (starEach [e, e2] X.env) = (false, eval e X.env) :: backTo pos (starEach [e2] X.env) := by rfl) (hpl : (backTo pos (starEach [e, e2] X.env)).any (·.1) = false := by rfl) :
    PI X (.Tuple elts kk tpos) (.Call (.Name "zip" p) [e, e2] [⟨some "strict", .Constant (.bool true) kc p3, p4⟩] pos) (iZipS X.K ta) := by
  refine ⟨fun pins s σ H R I h => ?_⟩
  have hk : PK X [⟨some "strict", .Constant (.bool true) kc p3, p4⟩] (tCons (tC (.bl true)) tNil) := pk_cons pe_bl pk_nil
  refine wpAny_Call_Name_kw (ld_blt I hg hm PyProof.Rows.boot_zip (cw_type ?_ he hpl rfl rfl))
  refine thn (ha.run pos pins s σ H _ I h) fun us s1 ⟨vs, H1, I1, r1, q1⟩ => thn (hk.run pos pins s1 σ H1 (fun zs H2 => zs = [.bl true] ∧ H2 = H1) I1 ⟨rfl, rfl⟩) fun ws s2 ⟨zs, H2, I2, r2, ez, eH⟩ => ?_
  subst ez eH
  obtain ⟨k1, k2, a, b, xs, ys, ex, hqx, hqy, q⟩ := q1
  subst ex
  have ews : ws = [.bool true] := by
    cases r2 with
    | cons c t => cases t; cases c; rfl
  subst ews
  cases r1 with
  | cons r rr =>
    cases rr with
    | cons r' rr =>
      cases rr
      cases r
      cases r'
      obtain ⟨its1, o1, B1, c1, la, f1⟩ := begins_k I2 hqx
      obtain ⟨its2, o2, B2, c2, lb, f2⟩ := begins_k I2 hqy
      refine call_new B1 B2 c1 c2 fun m gz gi go g1 g2 hk => py_iter gz ?_
      have I3 : Inv X pins σ H2 { s2 with heap := m } := I2.kept (t' := s2.toks) hk
      refine ⟨s2.heap.objs.size + 4, [s2.heap.objs.size + 4, s2.heap.objs.size + 2, s2.heap.objs.size + 3, s2.heap.objs.size, s2.heap.objs.size + 1], _, _, H2, rfl, I3, turn_zs (k1 := k1) (k2 := k2) (PySem.W.ktu_apart s2.heap.objs.size a b la lb), ⟨gz, gi, ⟨_, _, go⟩, f1 _ _ g1, f2 _ _ g2⟩, fun c hcm => ?_, q⟩
      have hle : s2.heap.objs.size ≤ c := by
        simp only [List.mem_cons, List.not_mem_nil, or_false] at hcm
        rcases hcm with q' | q' | q' | q' | q' <;> rw [q'] <;> first | exact Nat.le_refl _ | exact Nat.le_add_right _ _
      exact I2.fpOk hle (I2.hok.fresh hle)
end ZS
end Wt
namespace Wt
open PySem PySem.Spec PyProof.Rows L2
/-! ### in the frame of slots -/
/-- zip(F, G, strict=True), walked: the pairs -/
def fZips (F G : Ex) : Ex := fun σ => (F σ).bind fun r σ1 => (G σ1).bind fun q σ2 => match itemsOf r.d, itemsOf q.d with
  | some ds, some es => if ds.length = es.length then .ok ⟨.lst (zipD ds es), false⟩ σ2 else .bad
  | _, _ => .bad
section
variable {K : PySem.W.Frag} {mg : Str → Option Value}
def GK (K : PySem.W.Frag) (mg : Str → Option Value) : ZS.Ik → Addr → List D → As → As → Hp → Prop
  | .l => GL K mg
  | .t => GT K mg
theorem GK.sq {k : ZS.Ik} {a : Addr} {ds : List D} {O M : As} {H : Hp} (h : GK K mg k a ds O M H) : ∃ xs, k.S K H a xs ∧ RepA K mg O H xs ds := by
  cases k with
  | l => exact GL.sq h
  | t => exact h
theorem wk_zs (k1 k2 : ZS.Ik) (a b : Addr) (ds es : List D) (hl : ds.length = es.length) : Wk K mg (ZS.ItS K k1 k2 a b) (zipD ds es) (fun O M H => GK K mg k1 a ds O M H ∧ GK K mg k2 b es O M H) where
  keep := fun O M H O' M' H' h st k m => by
    obtain ⟨h1, h2⟩ := h
    constructor
    · cases k1 with
      | l => exact (wk_list a ds).keep _ _ _ _ _ _ h1 st k m
      | t => exact (wk_tup a ds).keep _ _ _ _ _ _ h1 st k m
    · cases k2 with
      | l => exact (wk_list b es).keep _ _ _ _ _ _ h2 st k m
      | t => exact (wk_tup b es).keep _ _ _ _ _ _ h2 st k m
  go := fun O M H i h hi => by
    obtain ⟨xs, h1, h2⟩ := h.1.sq
    obtain ⟨ys, h3, h4⟩ := h.2.sq
    rw [zipD_len] at hi
    have hx : i < xs.length := by rw [h2.length]; omega
    have hy : i < ys.length := by rw [h4.length]; omega
    exact ⟨xs, ys, xs[i], ys[i], h1, h3, List.getElem?_eq_getElem hx, List.getElem?_eq_getElem hy⟩
  yld := fun O M H i d v H' h e y => by
    obtain ⟨xs, h1, h2⟩ := h.1.sq
    obtain ⟨ys, h3, h4⟩ := h.2.sq
    obtain ⟨T, x, x', rfl, hT, rfl, y1, y2⟩ := y
    obtain ⟨d1, d2, e1, e2, rfl⟩ := zipD_get e
    obtain ⟨u, e3, r⟩ := h2.get e1
    obtain ⟨u', e4, r'⟩ := h4.get e2
    have e5 := y1 xs h1
    have e6 := y2 ys h3
    rw [e3] at e5; cases e5
    rw [e4] at e6; cases e6
    exact rep_new hT (.cons r (.cons r' .nil))
  stop := fun O M H h => by
    obtain ⟨xs, h1, h2⟩ := h.1.sq
    obtain ⟨ys, h3, h4⟩ := h.2.sq
    refine ⟨xs, ys, h1, h3, ?_⟩
    rw [zipD_len, h2.length, h4.length]
    omega
theorem rep_k {Γ : Fm} {τ : Stt} {σ : L2.St} {H : Hp} {v : V} {d : D} {ds : List D} (ok : SOk K mg Γ τ σ H) (rp : Rep K mg (Γ.O τ σ) H v d) (e : itemsOf d = some ds) :
    ∃ a k, v = .ref a ∧ (∃ xs, ZS.Ik.S K k H a xs) ∧ GK K mg k a ds (Γ.O τ σ) (mutS τ σ) H := by
  obtain ⟨a, rfl, h⟩ := rep_seq ok rp e
  rcases h with ⟨_, h1, h2⟩ | ⟨_, h1, h2⟩
  · exact ⟨a, .l, rfl, h1, h2⟩
  · exact ⟨a, .t, rfl, h1, h2⟩
end
section
variable {X : Cx} {e e2 : Expr} {F G : Ex} {p pos tpos p3 p4 : Pos} {kc : Nat} {elts : List Expr} {kk : Nat}
theorem di_zips (hg : Gl X "zip") (hm : X.mg "zip" = none) (ha : DA X [e, e2] [.v F, .v G])
    (he : backTo pos (starEach [e, e2] X.env) = (false, eval e X.env) :: backTo pos (starEach [e2] X.env) := by rfl) (hpl : (backTo pos (starEach [e, e2] X.env)).any (·.1) = false := by rfl) :
    DI X (.Tuple elts kk tpos) (.Call (.Name "zip" p) [e, e2] [⟨some "strict", .Constant (.bool true) kc p3, p4⟩] pos) (.ex (fZips F G)) := fun Γ => piM (ZS.pi_zipS hg hm (ha Γ) he hpl) fun σ H W hq => by
  obtain ⟨τ, ok, hq⟩ := hq
  refine dsOf_rdA (Fs := [F, G]) ok ?_
  simp only [Wt.It.run, fZips] at hq
  simp only [dsOf]
  cases e1 : F τ with
  | bad => simp only [e1] at hq; exact hq
  | ex e' τ' => simp only [e1] at hq; exact hq
  | ok r τ1 =>
    simp only [e1, R.bind] at hq ⊢
    cases e3 : G τ1 with
    | bad => simp only [e3] at hq
    | ex e' τ' => simp only [e3] at hq; exact hq
    | ok r' τ2 =>
      simp only [e3] at hq ⊢
      intro vs H1 s ok1 ra
      cases ra with
      | cons rp r2 =>
        cases r2 with
        | cons rp' r3 =>
          cases r3
          cases e4 : itemsOf r.d with
          | none => simp only [e4] at hq
          | some ds =>
            cases e5 : itemsOf r'.d with
            | none => simp only [e4, e5] at hq
            | some es =>
              simp only [e4, e5] at hq
              by_cases hl : ds.length = es.length
              · rw [if_pos hl] at hq
                obtain ⟨a, k1, rfl, ⟨xs, hx⟩, g⟩ := rep_k ok1 rp e4
                obtain ⟨b, k2, rfl, ⟨ys, hy⟩, g'⟩ := rep_k ok1 rp' e5
                exact ⟨k1, k2, a, b, xs, ys, rfl, hx, hy, hq _ _ H1 s ok1 (wk_zs k1 k2 a b ds es hl) ⟨g, g'⟩⟩
              · rw [if_neg hl] at hq
                exact hq.elim
end
end Wt
set_option autoImplicit false
set_option Elab.async false
set_option linter.all false
set_option maxRecDepth 100000
set_option maxHeartbeats 2000000
/-! Wt.2gen: list comprehensions with two generators, the second one over a range. -/
namespace Wt
open PySem PySem.Spec PyProof.Rows L2
/-! ### a range's walk asks nothing of the heap -/
def rdI2 (K : PySem.W.Frag) (mg : Str → Option Value) (Γ : Fm) (it : It) : TI := fun σ H R => ∃ τ, SOk K mg Γ τ σ H ∧ match it.run τ with
  | .ok ds τ' => ∀ J H', Step σ τ H σ τ' H' → SOk K mg Γ τ' σ H' → Wk K mg J ds (fun _ _ _ => True) → R J H'
  | .ex e τ' => Γ.xw e τ'
  | .bad => False
def DI2 (X : Cx) (tg e : Expr) (it : It) : Prop := ∀ Γ, PI X tg e (rdI2 X.K X.mg Γ it)
section
variable {X : Cx} {tg e e2 : Expr} {p pos : Pos} {F G : Ex}
theorem di2_rng2 (hg : Gl X "range") (hm : X.mg "range" = none) (ha : DA X [e, e2] [.v F, .v G]) (hs : starEach [e, e2] X.env = [(false, eval e X.env), (false, eval e2 X.env)] := by rfl) (hs2 : starEach [e2] X.env = [(false, eval e2 X.env)] := by rfl) :
    DI2 X tg (.Call (.Name "range" p) [e, e2] [] pos) (.rng2 F G) := fun Γ => piM (pi_range2 hg hm (ha Γ) hs hs2) fun σ H W hq => by
  obtain ⟨τ, ok, hq⟩ := hq
  refine dsOf_rdA (Fs := [F, G]) ok ?_
  simp only [It.run] at hq
  simp only [dsOf]
  cases e1 : F τ with
  | bad => simp only [e1] at hq; exact hq
  | ex e' τ' => simp only [e1] at hq; exact hq
  | ok r τ1 =>
    simp only [e1, R.bind] at hq ⊢
    cases e3 : G τ1 with
    | bad => simp only [e3] at hq
    | ex e' τ' => simp only [e3] at hq; exact hq
    | ok r' τ2 =>
      simp only [e3] at hq ⊢
      intro vs H1 s ok1 ra
      cases ra with
      | cons rp r2 =>
        cases r2 with
        | cons rp' r3 =>
          cases r3
          cases e2 : r.d with
          | int a =>
            cases e4 : r'.d with
            | int b =>
              rw [e2] at rp
              rw [e4] at rp'
              cases rp
              cases rp'
              simp only [e2, e4] at hq
              by_cases hb : (small a && small b) = true
              · simp only [hb, if_true] at hq
                have hb' : (-(2 ^ 62) ≤ a ∧ a < 2 ^ 62) ∧ -(2 ^ 62) ≤ b ∧ b < 2 ^ 62 := by simpa [small] using hb
                exact ⟨a, b, rfl, ⟨hb'.1.1, hb'.1.2, hb'.2.1, hb'.2.2⟩, hq _ H1 s ok1 (wk_rng a b)⟩
              · simp only [hb] at hq; exact False.elim hq
            | _ => simp only [e2, e4] at hq
          | _ => simp only [e2] at hq
end
/-! ### the combinator -/
def lc2Loop (own own1 : List Nat) (tg : Tg) (ifs : Te) (it1 : It) (tg1 : Tg) (ifs1 : Te) (elt : Ex) : List D → List D → Stt → R (List D)
  | [], acc, σ => .ok acc σ
  | d :: ds, acc, σ => match tg.put d (wipeS σ own) with
    | none => .bad
    | some σ1 => (ifs σ1).bind fun t σ2 => if t then (it1.run σ2).bind fun es σ3 => (lcLoop own1 tg1 ifs1 elt es acc σ3).bind fun acc1 σ4 => lc2Loop own own1 tg ifs it1 tg1 ifs1 elt ds acc1 σ4
        else lc2Loop own own1 tg ifs it1 tg1 ifs1 elt ds acc σ2
def fLc2 (it : It) (own own1 : List Nat) (tg : Tg) (ifs : Te) (it1 : It) (tg1 : Tg) (ifs1 : Te) (elt : Ex) : Ex := fun σ => (it.run σ).bind fun ds σ1 =>
  if clear σ1 own then (lc2Loop own own1 tg ifs it1 tg1 ifs1 elt ds [] σ1).bind fun acc σ2 => .ok ⟨.lst acc, true⟩ (it.off σ (unwipe σ1 σ2 own)) else .bad
/-! ### one turn's halves -/
theorem wipe_sub {σ ρ : L2.St} {vs vs1 : List Nat} (h : L2.wipe σ vs1 = L2.wipe ρ vs1) (hs : ∀ j ∈ vs1, j ∈ vs) : L2.wipe σ vs = L2.wipe ρ vs := by
  have hl : σ.length = ρ.length := by rw [← wipe_length σ vs1, h, wipe_length]
  refine List.ext_getElem? fun j => ?_
  have hj := congrArg (fun l => l[j]?) h
  simp only [wipe_get] at hj ⊢
  by_cases hm : j ∈ vs
  · rw [if_pos hm, if_pos hm]
    by_cases hlt : j < σ.length
    · rw [List.getElem?_eq_getElem hlt, List.getElem?_eq_getElem (by omega)]
      rfl
    · rw [List.getElem?_eq_none (by omega), List.getElem?_eq_none (by omega)]
  · rw [if_neg hm, if_neg hm]
    have hm1 : j ∉ vs1 := fun z => hm (hs j z)
    rw [if_neg hm1, if_neg hm1] at hj
    exact hj
section
variable {K : PySem.W.Frag} {mg : Str → Option Value} {Γ : Fm} {D0 : Addr} {G : As → As → Hp → Prop} {vs : List Nat} {t : Tg} {tt : Te} {F : Ex} {τ : Stt} {σ σw : L2.St} {H H3 : Hp} {acc : List D} {accV : List V} {x : V} {d : D}
def KeepG (G : As → As → Hp → Prop) : Prop := ∀ O M H O' M' H', G O M H → Stay O H O' H' → (∀ a x, H a = some x → ¬ M a → H' a = some x) → (∀ a x, M' a → H a = some x → M a) → G O' M' H'
/-- the state between two turns -/
structure Mid (K : PySem.W.Frag) (mg : Str → Option Value) (Γ : Fm) (D0 : Addr) (G : As → As → Hp → Prop) (τ : Stt) (σ : L2.St) (H : Hp) (acc : List D) (accV : List V) : Prop where
  ok : SOk K mg Γ τ σ H
  eD : H D0 = some (.lst accV)
  ra : RepA K mg (Γ.O τ σ) H accV acc
  g : G (Γ.O τ σ) (fun a => mutS τ σ a ∨ a = D0) H
theorem Mid.noM (m : Mid K mg Γ D0 G τ σ H acc accV) (hB : Γ.B D0) (hL : ¬ Γ.L D0) : ¬ mutS τ σ D0 := fun ⟨j, d, h, e⟩ => by
  rcases h with h | h
  · obtain ⟨a, e', ⟨_, n⟩, _⟩ := m.ok.sl j _ h
    rw [e] at e'; cases e'
    exact n hB
  · obtain ⟨a, e', ⟨n, _⟩, _⟩ := m.ok.sl j _ h
    rw [e] at e'; cases e'
    exact hL n
theorem Mid.step {τ2 : Stt} {σ2 : L2.St} {H4 : Hp} (m : Mid K mg Γ D0 G τ σ H acc accV) (kG : KeepG G) (hB : Γ.B D0) (hL : ¬ Γ.L D0) (st : Step σ τ H σ2 τ2 H4) (ok2 : SOk K mg Γ τ2 σ2 H4) : Mid K mg Γ D0 G τ2 σ2 H4 acc accV :=
  ⟨ok2, st.k D0 _ m.eD (m.noM hB hL), m.ra.stay (st.stay m.ok), kG _ _ _ _ _ _ m.g (st.stay m.ok) (fun a x e n => st.k a x e fun z => n (.inl z)) fun a x h e => h.elim (fun z => .inl (st.m a x z e)) .inr⟩
theorem lcA (kG : KeepG G) (hB : Γ.B D0) (hL : ¬ Γ.L D0) (hP : ∀ j ∈ vs, Γ.P j = none) (hsl : ∀ j ∈ t.slots, j ∈ vs) (m : Mid K mg Γ D0 G τ σ H acc accV) (hw : L2.wipe σ vs = σw)
    (gr : ∀ a o, H a = some o → H3 a = some o) (rp : Rep K mg (Γ.O τ σ) H3 x d) {W : Bool → L2.St → Hp → Prop}
    (hr : match t.put d (wipeS τ vs) with
      | none => False
      | some τa => match tt τa with
        | .bad => False
        | .ex e τ' => Γ.xw e τ'
        | .ok b τ2 => ∀ σ2 H4, Mid K mg Γ D0 G τ2 σ2 H4 acc accV → L2.wipe σ2 vs = σw → Step σ τ H σ2 τ2 H4 → W b σ2 H4) :
    ∃ Γ, rdG K mg Γ t x σw H3 fun σ2 H2 => L2.wipe σ2 vs = σw ∧ ∃ Γ, rdT K mg Γ tt σ2 H2 fun b H4 => W b σ2 H4 := by
  have okg := m.ok.grow gr
  obtain ⟨okw, oww, mtw⟩ := okg.wipe hP
  rw [hw] at okw oww mtw
  have stw : Step σ τ H σw (wipeS τ vs) H3 := ⟨fun a _ z _ => oww a z, fun a _ z _ => mtw a z, fun a x e _ => gr a x e, fun a x e => ⟨x, gr a x e⟩⟩
  have hO : ∀ a, Γ.O (wipeS τ vs) σw a → Γ.O τ σ a := fun a h => h.elim .inl fun z => .inr (oww a z)
  refine ⟨Γ, wipeS τ vs, d, okw, rp.weak hO, ?_⟩
  cases e1 : t.put d (wipeS τ vs) with
  | none => rw [e1] at hr; exact hr.elim
  | some τa =>
    simp only [e1] at hr
    intro σ2 H2 s2 ok2 ag
    have hw2 : L2.wipe σ2 vs = σw := by
      have l0 : σw.length = σ.length := by rw [← hw, wipe_length]
      refine List.ext_getElem? fun j => ?_
      rw [wipe_get]
      by_cases hj : j ∈ vs
      · rw [if_pos hj, ← hw, wipe_get, if_pos hj]
        have l1 : σ2.length = σ.length := by
          rw [← ok2.len, Tg.put_len e1, okw.len, l0]
        by_cases hlt : j < σ2.length
        · rw [List.getElem?_eq_getElem hlt, List.getElem?_eq_getElem (by omega)]
          rfl
        · rw [List.getElem?_eq_none (by omega), List.getElem?_eq_none (by omega)]
      · rw [if_neg hj, ag j fun z => hj (hsl j z)]
    refine ⟨hw2, Γ, τa, ok2, ?_⟩
    cases e2 : tt τa with
    | bad => rw [e2] at hr; exact hr.elim
    | ex e τ' => rw [e2] at hr; exact hr
    | ok b τ2 =>
      simp only [e2] at hr
      intro H4 s4 ok4
      have st := (stw.trans s2).trans s4
      exact hr σ2 H4 (m.step kG hB hL st ok4) hw2 st
theorem lcB (kG : KeepG G) (hB : Γ.B D0) (hL : ¬ Γ.L D0) (h0 : Γ.H0 D0 = none) (m : Mid K mg Γ D0 G τ σ H acc accV) {Nx : Hp → Prop}
    (hr : match F τ with
      | .bad => False
      | .ex e τ' => Γ.xw e τ'
      | .ok r τ3 => acc.length < sizeLine ∧ ∀ H6 accV', Mid K mg Γ D0 G τ3 σ H6 (acc ++ [r.d]) accV' → (∀ {σ0 : L2.St} {τ0 : Stt} {H0 : Hp}, H0 D0 = none → Step σ0 τ0 H0 σ τ H → Step σ0 τ0 H0 σ τ3 H6) → Nx H6) :
    ∃ Γ, rd K mg Γ F σ H fun y H5 => ∃ av, H5 D0 = some (.lst av) ∧ av.length < sizeLine ∧ Nx (upd H5 D0 (.lst (av ++ [y]))) := by
  refine ⟨Γ, τ, m.ok, ?_⟩
  cases e3 : F τ with
  | bad => rw [e3] at hr; exact hr.elim
  | ex e τ' => rw [e3] at hr; exact hr
  | ok r τ3 =>
    simp only [e3] at hr
    obtain ⟨hz, hr⟩ := hr
    intro y H5 ps
    obtain ⟨s5, ok5, rp5⟩ := ps.frz m.ok
    have m5 := m.step kG hB hL s5 ok5
    refine ⟨accV, m5.eD, by rw [m.ra.length]; exact hz, hr _ (accV ++ [y]) ⟨ok5.atB hB hL h0 m5.eD, upd_same, ?_, ?_⟩ fun hn st => (st.trans s5).off_at hn m5.eD⟩
    · refine (m5.ra.append (.cons rp5 .nil)).stay ⟨fun a x h _ => h, fun a x e h => ?_⟩
      by_cases ha : a = D0
      · subst ha
        rw [m5.eD] at e; cases e
        exact h.elim (fun z => z.elim) fun z => absurd (.inl hB) z
      · rw [upd_ne ha]; exact e
    · refine kG _ _ _ _ _ _ m5.g ⟨fun a x h _ => h, fun a x e h => ?_⟩ (fun a x e n => ?_) fun a x h _ => h
      · by_cases ha : a = D0
        · subst ha
          rw [m5.eD] at e; cases e
          exact h.elim (fun z => z.elim) fun z => absurd (.inl hB) z
        · rw [upd_ne ha]; exact e
      · rw [upd_ne (fun z => n (.inr z))]; exact e
end
section
variable {K : PySem.W.Frag} {mg : Str → Option Value} {Γ : Fm} {σ : L2.St} {H : Hp} {Q : VK} {vs vs1 : List Nat} {it it1 : It} {t t1 : Tg} {tt tt1 : Te} {F : Ex}
theorem lc2_read (hsl : ∀ j ∈ t.slots, j ∈ vs) (hsl1 : ∀ j ∈ t1.slots, j ∈ vs1) (hv : ∀ j ∈ vs1, j ∈ vs) (hq : rd K mg Γ (fLc2 it vs vs1 t tt it1 t1 tt1 F) σ H Q) :
    tLc2 (rdI K mg Γ it) (fun v σ H Q => ∃ Γ, rdG K mg Γ t v σ H Q) (fun σ H Q => ∃ Γ, rdT K mg Γ tt σ H Q) (fun σ H R => ∃ Γ, rdI2 K mg Γ it1 σ H R)
      (fun v σ H Q => ∃ Γ, rdG K mg Γ t1 v σ H Q) (fun σ H Q => ∃ Γ, rdT K mg Γ tt1 σ H Q) (fun σ H Q => ∃ Γ, rd K mg Γ F σ H Q) vs vs1 σ H Q := by
  obtain ⟨τ0, ok0, hq⟩ := hq
  refine ⟨τ0, ok0, ?_⟩
  unfold fLc2 at hq
  cases hrun : it.run τ0 with
  | bad => rw [hrun] at hq; exact hq.elim
  | ex e τ' => rw [hrun] at hq; exact hq
  | ok ds τ1 =>
    simp only [hrun, R.bind] at hq
    by_cases hcl : clear τ1 vs = true
    · rw [if_pos hcl] at hq
      have hclr := clear_get τ1 hcl
      intro J G H1 s1 ok1 wk g1 D hD
      obtain ⟨Γ', hpn, hup⟩ := pinned_of ok0 hrun
      have ok1' := hup (Γ2 := Γ) trivial ok1
      have eO : Γ'.O = Γ.O := hpn.B.1
      have hL : ¬ Γ'.L D := ok1'.noL hD
      have h0 : Γ'.H0 D = none := ok1'.free0 hD
      have hP : ∀ j ∈ vs, (Γ'.add D).P j = none := fun j hj => by
        cases q : Γ'.P j with
        | none => exact q
        | some a =>
          obtain ⟨_, d, l, z⟩ := ok1'.pn j a q
          rcases hclr j hj with z2 | ⟨_, z2⟩ <;> (rw [z] at z2; cases z2)
      have hB : (Γ'.add D).B D := .inr rfl
      have hL' : ¬ (Γ'.add D).L D := hL
      have kD : ∀ a o, H1 a = some o → upd H1 D (.lst []) a = some o := fun a o e => by rw [upd_ne (ne_of_none e hD)]; exact e
      have okD : SOk K mg (Γ'.add D) τ1 σ (upd H1 D (.lst [])) := ok1'.grow_add kD hD ⟨_, upd_same⟩
      have gD : G ((Γ'.add D).O τ1 σ) (fun a => mutS τ1 σ a ∨ a = D) (upd H1 D (.lst [])) := by
        refine wk.keep _ _ _ _ _ _ g1 ⟨fun a x h e => ?_, fun a x e _ => kD a x e⟩ (fun a x e _ => kD a x e) fun a x h e => ?_
        · rcases h with (h | h) | h
          · exact .inl (hpn.B.2.2.1 ▸ h)
          · rw [h, hD] at e; cases e
          · exact .inr h
        · rcases h with h | h
          · exact h
          · rw [h, hD] at e; cases e
      let W : Nat → Nat → Hp → Prop := fun i m H' => m = ds.length - i ∧ i ≤ ds.length ∧ ∃ τ σ' acc accV, Mid K mg (Γ'.add D) D G τ σ' H' acc accV ∧ L2.wipe σ' vs = L2.wipe σ vs ∧ Step σ τ1 H1 σ' τ H' ∧
        fin K mg Γ σ τ0 H ((lc2Loop vs vs1 t tt it1 t1 tt1 F (ds.drop i) acc τ).bind fun acc σ2 => .ok ⟨.lst acc, true⟩ (it.off τ0 (unwipe τ1 σ2 vs))) Q
      refine ⟨W, ⟨ds.length, by simp, Nat.zero_le _, τ1, σ, [], [], ⟨okD, upd_same, .nil, gD⟩, rfl, .grow kD, hq⟩, fun i m H' hW => ?_⟩
      obtain ⟨rfl, hi', τ, σ', acc, accV, md, hw, st, hr⟩ := hW
      by_cases hlt : i < ds.length
      · refine .inr ⟨wk.go _ _ _ i md.g hlt, W (i + 1) (ds.length - (i + 1)), fun H2 w => ⟨ds.length - (i + 1), by omega, w⟩, fun x H3 hy => ?_⟩
        have ed : ds[i]? = some ds[i] := List.getElem?_eq_getElem hlt
        obtain ⟨gr, rp⟩ := wk.yld _ _ _ i ds[i] x H3 md.g ed hy
        have edrop : ds.drop i = ds[i] :: ds.drop (i + 1) := List.drop_eq_getElem_cons hlt
        rw [edrop] at hr
        simp only [lc2Loop] at hr
        refine lcA wk.keep hB hL' hP hsl md hw gr rp ?_
        cases e1 : t.put ds[i] (wipeS τ vs) with
        | none => rw [e1] at hr; exact hr.elim
        | some τa =>
          simp only [e1] at hr ⊢
          cases e2 : tt τa with
          | bad => rw [e2] at hr; exact hr.elim
          | ex e τ' => rw [e2] at hr; show Γ'.xw e τ'; rw [hpn.B.2.1]; exact hr
          | ok b τ2 =>
            simp only [e2, R.bind] at hr ⊢
            intro σ2 H4 m4 hw2 st4
            cases b with
            | false =>
              rw [if_neg Bool.false_ne_true] at hr ⊢
              exact ⟨rfl, hlt, τ2, σ2, acc, accV, m4, hw2, st.trans st4, hr⟩
            | true =>
              rw [if_pos rfl] at hr ⊢
              refine ⟨Γ'.add D, τ2, m4.ok, ?_⟩
              cases e3 : it1.run τ2 with
              | bad => rw [e3] at hr; exact hr.elim
              | ex e τ' => rw [e3] at hr; show Γ'.xw e τ'; rw [hpn.B.2.1]; exact hr
              | ok es τ3 =>
                simp only [e3, R.bind] at hr
                intro J1 H5 s5 ok5 wk1
                have m5 := m4.step wk.keep hB hL' s5 ok5
                let W1 : Nat → Nat → Hp → Prop := fun j k H' => k = es.length - j ∧ j ≤ es.length ∧ ∃ τ ρ acc accV, Mid K mg (Γ'.add D) D G τ ρ H' acc accV ∧ L2.wipe ρ vs1 = L2.wipe σ2 vs1 ∧ Step σ τ1 H1 ρ τ H' ∧
                  fin K mg Γ σ τ0 H (((lcLoop vs1 t1 tt1 F (es.drop j) acc τ).bind fun acc1 σ4 => lc2Loop vs vs1 t tt it1 t1 tt1 F (ds.drop (i + 1)) acc1 σ4).bind fun acc σ2 => .ok ⟨.lst acc, true⟩ (it.off τ0 (unwipe τ1 σ2 vs))) Q
                refine ⟨W1, ⟨es.length, by simp, Nat.zero_le _, τ3, σ2, acc, accV, m5, rfl, (st.trans st4).trans s5, hr⟩, fun j k H' hW1 => ?_⟩
                obtain ⟨rfl, hj', τ', ρ, acc', accV', md1, hw1, st1, hr1⟩ := hW1
                by_cases hlt1 : j < es.length
                · refine .inr ⟨wk1.go (fun _ => True) (fun _ => True) _ j trivial hlt1, W1 (j + 1) (es.length - (j + 1)), fun H2 w => ⟨es.length - (j + 1), by omega, w⟩, fun x H3 hy => ?_⟩
                  have ed1 : es[j]? = some es[j] := List.getElem?_eq_getElem hlt1
                  obtain ⟨gr1, rp1⟩ := wk1.yld ((Γ'.add D).O τ' ρ) (fun _ => True) _ j es[j] x H3 trivial ed1 hy
                  have edrop1 : es.drop j = es[j] :: es.drop (j + 1) := List.drop_eq_getElem_cons hlt1
                  rw [edrop1] at hr1
                  simp only [lcLoop] at hr1
                  refine lcA wk.keep hB hL' (fun j hj => hP j (hv j hj)) hsl1 md1 hw1 gr1 rp1 ?_
                  cases f1 : t1.put es[j] (wipeS τ' vs1) with
                  | none => rw [f1] at hr1; exact hr1.elim
                  | some τb =>
                    simp only [f1] at hr1 ⊢
                    cases f2 : tt1 τb with
                    | bad => rw [f2] at hr1; exact hr1.elim
                    | ex e τ' => rw [f2] at hr1; show Γ'.xw e τ'; rw [hpn.B.2.1]; exact hr1
                    | ok b τ5 =>
                      simp only [f2, R.bind] at hr1 ⊢
                      intro σ3 H7 m7 hw3 st7
                      cases b with
                      | false =>
                        rw [if_neg Bool.false_ne_true] at hr1 ⊢
                        exact ⟨rfl, hlt1, τ5, σ3, acc', accV', m7, hw3, st1.trans st7, hr1⟩
                      | true =>
                        rw [if_pos rfl] at hr1 ⊢
                        refine lcB wk.keep hB hL' h0 m7 ?_
                        cases f3 : F τ5 with
                        | bad => rw [f3] at hr1; exact hr1.elim
                        | ex e τ' => rw [f3] at hr1; show Γ'.xw e τ'; rw [hpn.B.2.1]; exact hr1
                        | ok r τ6 =>
                          simp only [f3, R.bind] at hr1 ⊢
                          by_cases hz : acc'.length < sizeLine
                          · rw [if_pos hz] at hr1
                            exact ⟨hz, fun H6 aV m6 stf => ⟨rfl, hlt1, τ6, σ3, _, aV, m6, hw3, stf hD (st1.trans st7), hr1⟩⟩
                          · rw [if_neg hz] at hr1; exact hr1.elim
                · have e : j = es.length := by omega
                  subst e
                  rw [List.drop_length] at hr1
                  simp only [lcLoop, R.bind] at hr1
                  exact .inl ⟨wk1.stop (fun _ => True) (fun _ => True) _ trivial, rfl, hlt, τ', ρ, acc', accV', md1, (wipe_sub hw1 hv).trans hw2, st1, hr1⟩
      · have e : i = ds.length := by omega
        subst e
        rw [List.drop_length] at hr
        simp only [lc2Loop, R.bind] at hr
        refine .inl ⟨wk.stop _ _ _ md.g, hr _ H' ?_⟩
        -- the names of the block are as they were
        obtain ⟨okw, oww, mtw⟩ := md.ok.wipe hP
        rw [hw] at okw oww mtw
        have hl : τ1.length = (wipeS τ vs).length := by
          rw [ok1.len, okw.len, wipe_length]
        have hO : ∀ a, (Γ'.add D).O (wipeS τ vs) (L2.wipe σ vs) a → (Γ'.add D).O τ σ' a := fun a h => h.elim .inl fun z => .inr (oww a z)
        obtain ⟨oku, owu, mtu⟩ := okw.unwipe (τ0 := τ1) (σ := σ) hl fun j hj => by
          rcases hclr j hj with q | ⟨d, q⟩
          · exact .inl q
          · obtain ⟨v, q1, q2⟩ := ok1.sl j _ q
            refine .inr ⟨d, v, q, q1, ?_⟩
            have st' : Stay (Γ.O τ1 σ) H1 ((Γ'.add D).O (wipeS τ vs) (L2.wipe σ vs)) H' := by
              refine ⟨fun a x h e => ?_, (st.stay ok1).k⟩
              rcases h with (h | h) | h
              · exact .inl (hpn.B.2.2.1 ▸ h)
              · rw [h, hD] at e; cases e
              · exact .inr (st.o a x (oww a h) e)
            exact q2.stay st'
        have eq1 : Wt.unwipe τ1 (wipeS τ vs) vs = Wt.unwipe τ1 τ vs := by
          refine List.ext_getElem? fun j => ?_
          rw [unwipe_get τ1 _ hl, unwipe_get τ1 τ (by rw [hl, wipeS_len])]
          by_cases hj : j ∈ vs
          · rw [if_pos hj, if_pos hj]
          · rw [if_neg hj, if_neg hj, wipeS_get, if_neg hj]
        rw [eq1] at oku owu mtu
        have stE : Step σ τ1 H1 σ (Wt.unwipe τ1 τ vs) H' := ⟨fun a x z e => st.o a x (oww a (owu a z)) e, fun a x z e => st.m a x (mtw a (mtu a z)) e, st.k, st.t⟩
        have hp' : Pinned (Γ.add D) it τ0 σ (Γ'.add D) := by
          cases hpn with
          | no h => exact .no h
          | sl h1 h2 h3 => exact .sl (Γ := Γ.add D) h1 h2 h3
        obtain ⟨okf, owf⟩ := off_sok hp' oku
        refine ⟨off_step hp' (s1.trans stE) oku, D, rfl, s1.free hD, okf, accV, acc, rfl, md.eD, md.ra.weak fun a z => ?_⟩
        rcases z with z | z
        · exact .inl (by show Γ'.B a ∨ a = D; rw [hpn.B.2.2.1]; exact z)
        · exact .inr (oww a (owu a ((owf a).mp z)))
    · rw [if_neg hcl] at hq; exact hq.elim
end
section
variable {X : Cx} {elt tg iter tg1 iter1 : Expr} {ifs ifs1 : List Expr} {scope : Scope} {own : List (Str × Nat)} {vs1 : List Nat} {pos : Pos} {it it1 : It} {t t1 : Tg} {tt tt1 : Te} {F : Ex}
theorem de_lc2 (hc : X.calm = true) (hN : X.N.Nodup) (hi : DI X tg iter it) (okB : BlkOk X.N X.env.scope scope own)
    (hg : ∀ (s : Shared) (H : Hp) (C : Addr) (cl : List (Str × Addr)) (fp : List Addr), DG (X.blk s H scope (compEnvC scope cl C X.env) fp) tg t)
    (ht : ∀ (s : Shared) (H : Hp) (C : Addr) (cl : List (Str × Addr)) (fp : List Addr), DTs (X.blk s H scope (compEnvC scope cl C X.env) fp) ifs tt)
    (hi1 : ∀ (s : Shared) (H : Hp) (C : Addr) (cl : List (Str × Addr)) (fp : List Addr), DI2 (X.blk s H scope (compEnvC scope cl C X.env) fp) tg1 iter1 it1)
    (hg1 : ∀ (s : Shared) (H : Hp) (C : Addr) (cl : List (Str × Addr)) (fp : List Addr), DG (X.blk s H scope (compEnvC scope cl C X.env) fp) tg1 t1)
    (ht1 : ∀ (s : Shared) (H : Hp) (C : Addr) (cl : List (Str × Addr)) (fp : List Addr), DTs (X.blk s H scope (compEnvC scope cl C X.env) fp) ifs1 tt1)
    (he : ∀ (s : Shared) (H : Hp) (C : Addr) (cl : List (Str × Addr)) (fp : List Addr), DE (X.blk s H scope (compEnvC scope cl C X.env) fp) elt F)
    (hsl : ∀ j ∈ t.slots, j ∈ own.map (·.2)) (hsl1 : ∀ j ∈ t1.slots, j ∈ vs1) (hv : ∀ j ∈ vs1, j ∈ own.map (·.2)) (hs : ∀ x, foldedSetIterable iter X.env x = pure x := by intro _; rfl) (hs1 : ∀ env x, foldedSetIterable iter1 env x = pure x := by intro _ _; rfl) :
    DE X (.ListComp elt [⟨tg, iter, ifs, 0⟩, ⟨tg1, iter1, ifs1, 0⟩] scope pos) (fLc2 it (own.map (·.2)) vs1 t tt it1 t1 tt1 F) := fun Γ => peM (pe_lc2 hc hN (hi Γ) okB hv
    (fun s H C cl fp => ⟨fun pins s' σ H v u Q I r ⟨Γ, h⟩ => (hg s _ C cl fp Γ).run pins s' σ H v u Q I r h⟩)
    (fun s H C cl fp => ⟨fun pins s' σ H Q I ⟨Γ, h⟩ => (ht s _ C cl fp Γ).run pins s' σ H Q I h⟩)
    (fun s H C cl fp => ⟨fun pins s' σ H Q I ⟨Γ, h⟩ => (hi1 s _ C cl fp Γ).run pins s' σ H Q I h⟩)
    (fun s H C cl fp => ⟨fun pins s' σ H v u Q I r ⟨Γ, h⟩ => (hg1 s _ C cl fp Γ).run pins s' σ H v u Q I r h⟩)
    (fun s H C cl fp => ⟨fun pins s' σ H Q I ⟨Γ, h⟩ => (ht1 s _ C cl fp Γ).run pins s' σ H Q I h⟩)
    (fun s H C cl fp => ⟨fun pins s' σ H Q I ⟨Γ, h⟩ => (he s _ C cl fp Γ).run pins s' σ H Q I h⟩) hs hs1) fun σ H Q hq => lc2_read hsl hsl1 hv hq
theorem ds_setLc2 {i : Nat} {y : Str} {py spos : Pos} (hc : X.calm = true) (hN : X.N.Nodup) (hy : X.N[i]? = some y) (hyl : X.env.scope.names.lookup y = some .local)
    (hsw : swapsWith (.ListComp elt [⟨tg, iter, ifs, 0⟩, ⟨tg1, iter1, ifs1, 0⟩] scope pos) (some (.Name y py)) spos.line X.env = pure true) (hi : DI X tg iter it) (okB : BlkOk X.N X.env.scope scope own)
    (hg : ∀ (s : Shared) (H : Hp) (C : Addr) (cl : List (Str × Addr)) (fp : List Addr), DG (X.blk s H scope (compEnvC scope cl C X.env) fp) tg t)
    (ht : ∀ (s : Shared) (H : Hp) (C : Addr) (cl : List (Str × Addr)) (fp : List Addr), DTs (X.blk s H scope (compEnvC scope cl C X.env) fp) ifs tt)
    (hi1 : ∀ (s : Shared) (H : Hp) (C : Addr) (cl : List (Str × Addr)) (fp : List Addr), DI2 (X.blk s H scope (compEnvC scope cl C X.env) fp) tg1 iter1 it1)
    (hg1 : ∀ (s : Shared) (H : Hp) (C : Addr) (cl : List (Str × Addr)) (fp : List Addr), DG (X.blk s H scope (compEnvC scope cl C X.env) fp) tg1 t1)
    (ht1 : ∀ (s : Shared) (H : Hp) (C : Addr) (cl : List (Str × Addr)) (fp : List Addr), DTs (X.blk s H scope (compEnvC scope cl C X.env) fp) ifs1 tt1)
    (he : ∀ (s : Shared) (H : Hp) (C : Addr) (cl : List (Str × Addr)) (fp : List Addr), DE (X.blk s H scope (compEnvC scope cl C X.env) fp) elt F)
    (hsl : ∀ j ∈ t.slots, j ∈ own.map (·.2)) (hsl1 : ∀ j ∈ t1.slots, j ∈ vs1) (hv : ∀ j ∈ vs1, j ∈ own.map (·.2)) (hs : ∀ x, foldedSetIterable iter X.env x = pure x := by intro _; rfl) (hs1 : ∀ env x, foldedSetIterable iter1 env x = pure x := by intro _ _; rfl) :
    DS X (.Assign [.Name y py] (.ListComp elt [⟨tg, iter, ifs, 0⟩, ⟨tg1, iter1, ifs1, 0⟩] scope pos) spos) (sSet i (fLc2 it (own.map (·.2)) vs1 t tt it1 t1 tt1 F)) := fun Γ => psM (ps_setLc2 hc hN hy hyl hsw (hi Γ) okB hv
    (fun s H C cl fp => ⟨fun pins s' σ H v u Q I r ⟨Γ, h⟩ => (hg s _ C cl fp Γ).run pins s' σ H v u Q I r h⟩)
    (fun s H C cl fp => ⟨fun pins s' σ H Q I ⟨Γ, h⟩ => (ht s _ C cl fp Γ).run pins s' σ H Q I h⟩)
    (fun s H C cl fp => ⟨fun pins s' σ H Q I ⟨Γ, h⟩ => (hi1 s _ C cl fp Γ).run pins s' σ H Q I h⟩)
    (fun s H C cl fp => ⟨fun pins s' σ H v u Q I r ⟨Γ, h⟩ => (hg1 s _ C cl fp Γ).run pins s' σ H v u Q I r h⟩)
    (fun s H C cl fp => ⟨fun pins s' σ H Q I ⟨Γ, h⟩ => (ht1 s _ C cl fp Γ).run pins s' σ H Q I h⟩)
    (fun s H C cl fp => ⟨fun pins s' σ H Q I ⟨Γ, h⟩ => (he s _ C cl fp Γ).run pins s' σ H Q I h⟩) hs hs1) fun N σ H hq => lc2_read hsl hsl1 hv (set_rd hq)
end
end Wt
set_option autoImplicit false
set_option Elab.async false
set_option linter.all false
set_option maxRecDepth 100000
set_option maxHeartbeats 2000000
/-! Wt.Rev: x[::-1] of a list, a tuple, a text. -/
namespace Wt
namespace RV
open PySem PySem.Spec PyProof.Rows L2
section
variable {prog : Program} {w : World} {A : Around} {E : Value → Shared → Prop} {s : Shared}
theorem adj (n : Nat) : Builtin.Slice.sliceAdjust none none (-1) (n : Int) = ((n : Int) - 1, -1) := by
  unfold Builtin.Slice.sliceAdjust
  simp
theorem plc (n : Nat) : Builtin.Slice.slicePlaces ((n : Int) - 1) (-1) (-1) = n := by
  unfold Builtin.Slice.slicePlaces
  have h1 : ¬ ((-1 : Int) > 0) := by omega
  simp only [h1, if_false]
  split
  · have : ((n : Int) - 1 - -1 - 1) / (- -1) + 1 = (n : Int) := by
      rw [show (- -1 : Int) = 1 by decide, Int.ediv_one]; omega
    omega
  · omega
theorem app {z : Addr} {v1 v2 v3 : Value} {n : Nat} {Q : Int × Int × Nat → Shared → Prop} (hz : s.heap.IsSliceOf z v1 v2 v3) (p1 : IsPart v1 none) (p2 : IsPart v2 none) (p3 : IsPart v3 (some (-1)))
    (q : Q ((n : Int) - 1, -1, n) s) : wpAny (model prog w) A (Builtin.Slice.sliceApplied (.ref z) (pure (n : Int))) Q E s := by
  obtain ⟨oz, g1, _, g3⟩ := id hz
  unfold Builtin.Slice.sliceApplied Builtin.Slice.sliceFields
  refine wpAny_bind (wpAny_bind (wpAny_field g1 g3 (x := v1) rfl (wpAny_bind (wpAny_field g1 g3 (x := v2) rfl (wpAny_bind (wpAny_field g1 g3 (x := v3) rfl (wpAny_pure ?_)))))))
  refine wpAny_bind (HT.slicePart_ p3 ?_)
  show wpAny _ _ (if ((-1 : Int) == 0) = true then _ else _) _ _ s
  rw [if_neg (by decide)]
  refine wpAny_bind (HT.slicePart_ p1 (wpAny_bind (HT.slicePart_ p2 (wpAny_bind (wpAny_pure ?_)))))
  show wpAny _ _ (match Builtin.Slice.sliceAdjust none none (-1) (n : Int) with | (lo, hi) => pure (lo, (-1 : Int), Builtin.Slice.slicePlaces lo hi (-1))) _ _ s
  rw [adj]
  show wpAny _ _ (pure ((n : Int) - 1, (-1 : Int), Builtin.Slice.slicePlaces ((n : Int) - 1) (-1) (-1))) _ _ s
  rw [plc]
  exact wpAny_pure q
theorem pick (xs : Array Value) : ((List.range xs.size).filterMap fun (m : Nat) => xs[((xs.size : Int) - 1 + (m : Int) * -1).toNat]?).toArray = xs.toList.reverse.toArray := by
  have e : (List.range xs.size).filterMap (fun (m : Nat) => xs[((xs.size : Int) - 1 + (m : Int) * -1).toNat]?) = ((List.range xs.size).map fun k => xs.size - 1 - k).filterMap (xs[·]?) := by
    rw [List.filterMap_map]
    congr 1
    funext m
    show _ = xs[xs.size - 1 - m]?
    congr 1
    omega
  rw [e, PySem.W.krv_range, List.filterMap_reverse, PySem.W.krv_all]
theorem get_tup {t z : Addr} {xs : Array Value} {v1 v2 v3 : Value} {Q : Value → Shared → Prop} (ht : IsTup s.heap t xs) (hz : s.heap.IsSliceOf z v1 v2 v3) (p1 : IsPart v1 none) (p2 : IsPart v2 none) (p3 : IsPart v3 (some (-1)))
    (q : Q (.ref s.heap.objs.size) { s with heap := s.heap.push { cls := .type "tuple", data := .seq xs.toList.reverse.toArray } }) (hl : xs.size ≤ sizeLine) : wpAny (model prog w) A (getItem (.ref t) (.ref z)) Q E s := by
  have hk : sizeOk (.seq xs.toList.reverse.toArray) := by
    show xs.toList.reverse.toArray.size ≤ sizeLine
    rw [List.size_toArray, List.length_reverse, Array.length_toList]
    exact hl
  obtain ⟨oz, g1, g2, g3⟩ := id hz
  have hT : s.TypeIs (.ref z) "slice" := ⟨oz, g1, g2⟩
  unfold getItem
  try with_reducible refine wpAny_holding ?_
  first | refine wpAny_bind (wpAny_pure ?_) | skip
  refine wpAny_bind (wpAny_sequenceKey ht.typeIs (by decide) ?_)
  refine wpAny_bind (wpAny_callSpecial?_slot (name := Str.ofString "__getitem__") ht.typeIs PyProof.Rows.slot_tuple_getitem
    (wpAny_call_entry PyProof.Rows.slot_tuple_getitem ht.typeIs entry_tuple_getitem ?_ (args_tuple_getitem _ _)))
  show wpAny _ _ (Builtin.Tuple.tupleItemsOf (.ref t) >>= _) _ _ s
  refine wpAny_bind (PyProof.Rows.tupleItemsOf_ ht (wpAny_bind (wpAny_typeOf hT ?_)))
  rw [if_pos (by decide)]
  refine wpAny_bind (app hz p1 p2 p3 ?_)
  have hno : ¬ (((xs.size : Int) - 1 == 0 && (-1 : Int) == 1 && xs.size == xs.size) = true) := by
    rw [show ((-1 : Int) == 1) = false by decide, Bool.and_false, Bool.false_and]
    exact Bool.false_ne_true
  show wpAny _ _ (if ((xs.size : Int) - 1 == 0 && (-1 : Int) == 1 && xs.size == xs.size) = true then _ else _) _ _ s
  rw [if_neg hno, pick]
  first
    | exact wpAny_bind (m := Builtin.Tuple.tupleExact _) (wpAny_newObj_type (wpAny_pure ⟨_, rfl, wpAny_pure q⟩) hk)
    | exact wpAny_bind (m := Builtin.Tuple.tupleExact _) (wpAny_newObj_type (wpAny_bind (wpAny_pure (wpAny_pure ⟨_, rfl, wpAny_pure q⟩))) hk)
    | exact wpAny_bind (wpAny_bind (m := Builtin.Tuple.tupleExact _) (wpAny_newObj_type (wpAny_pure (wpAny_pure ⟨_, rfl, wpAny_pure q⟩)) hk))
    | exact wpAny_bind (wpAny_bind (m := Builtin.Tuple.tupleExact _) (wpAny_newObj_type (wpAny_pure ⟨_, rfl, wpAny_pure q⟩) hk))
end
/-- the text from behind -/
def revS (z : Str) : Str := ⟨z.cps.toList.reverse.toArray⟩
theorem str_pick (z : Str) : (⟨((Builtin.Str.strSliceIndices none none (-1) z.length).filterMap (z.cps[·]?)).toArray⟩ : Str) = revS z := by
  have e : Builtin.Str.strSliceIndices none none (-1) z.length = (List.range z.length).map fun k => z.length - 1 - k := PySem.W.krv_sliceRange z.length
  unfold revS
  rw [e, PySem.W.krv_range, List.filterMap_reverse]
  congr 3
  exact PySem.W.krv_all z.cps
/-- what [::-1] does -/
def rRev (K : PySem.W.Frag) : V → Hp → VK → Prop := fun x H Q => (∃ a xs, x = .ref a ∧ SqL K H a xs ∧ ∀ p, H p = none → Q (.ref p) (upd H p (.lst xs.reverse))) ∨
  (∃ a xs, x = .ref a ∧ SqT K H a xs ∧ ∀ p, H p = none → Q (.ref p) (upd H p (.tup xs.reverse))) ∨ (∃ z, x = .str z ∧ z.length ≤ sizeLine ∧ Q (.str (revS z)) H)
def tRev (K : PySem.W.Frag) (te : TE) : TE := fun σ H Q => te σ H fun x H1 => rRev K x H1 Q
theorem pe_rev {X : Cx} {e : Expr} {te : TE} {k : Nat} {p1 p2 p3 pos : Pos} (he : PE X e te) : PE X (.Subscript e (.Slice none none (some (.UnaryOp .USub (.Constant (.int 1) k p1) p2)) p3) pos) (tRev X.K te) := by
  refine ⟨fun pins s σ H Q I h => ?_⟩
  refine Subscript_ (thn (he.run pins s σ H _ I h) fun v s1 ⟨x, H1, I1, r1, q1⟩ => ?_)
  have hst : PO X (some (.UnaryOp .USub (.Constant (.int 1) k p1) p2)) (tPart (tUn (rU fun i => .int (-i)) (tC (.int 1)))) := po_some (pe_un un_neg pe_int)
  refine wpAny_Slice (thn (po_none.run pins s1 σ H1 (fun o H2 => o = none ∧ H2 = H1) I1 ⟨rfl, rfl⟩) fun v1 s2 ⟨l, H2, I2, pl, el, e2⟩ => thn (po_none.run pins s2 σ H2 (fun o H3 => o = none ∧ H3 = H2) I2 ⟨rfl, rfl⟩) fun v2 s3 ⟨u, H3, I3, pu, eu, e3⟩ => ?_)
  subst el e2 eu e3
  refine thn (hst.run pins s3 σ H3 (fun o H4 => o = some (-1) ∧ H4 = H3) I3 ⟨1, rfl, -1, rfl, rfl, rfl⟩) fun v3 s4 ⟨o, H4, I4, ps, eo, e4⟩ => ?_
  subst eo e4
  have I5 : Inv X pins σ H4 { s4 with heap := s4.heap.push { cls := .type "slice", data := .fields #[v1, v2, v3] } } := I4.kept (t' := s4.toks) fun b ob q => Heap.get?_push_of_some _ q
  have hz := Heap.IsSliceOf.new s4.heap v1 v2 v3
  show wpAny (model X.prog X.w) X.A (subscriptTail e (.Slice none none (some (.UnaryOp .USub (.Constant (.int 1) k p1) p2)) p3) v (.ref s4.heap.objs.size)) (EP X pins σ Q) X.xe { s4 with heap := s4.heap.push { cls := .type "slice", data := .fields #[v1, v2, v3] } }
  rcases q1 with ⟨a, xs, rfl, hx, q⟩ | ⟨a, xs, rfl, hx, q⟩ | ⟨z, rfl, hl, q⟩
  · cases r1
    obtain ⟨its, r, ht, hz'⟩ := I5.list hx
    have hlen := r.length
    refine tail_any (ops := [.ref a, .ref s4.heap.objs.size]) ht.isList.typeIs PySem.slot_list_getitem.lookup ?_ (by with_unfolding_all rfl)
    refine wpAny_getItem_list_slice ht.isList hz pl pu ps (by decide) ?_ (by rw [List.size_toArray]; omega)
    rw [PySem.W.krv_pick]
    refine ⟨.ref _, _, I5.laid (t' := s4.toks) (o := .lst xs.reverse) (fun b ob q => Heap.get?_push_of_some _ q) (Nat.le_refl _) ?_, rfl, q _ (I5.hok.fresh (Nat.le_refl _))⟩
    exact ⟨by rw [List.length_reverse]; exact hz', _, 0, r.reverse, Heap.get?_push_size _ rfl⟩
  · cases r1
    obtain ⟨its, r, ht, hz'⟩ := I5.tuple hx
    have hlen := r.length
    refine tail_any (ops := [.ref a, .ref s4.heap.objs.size]) ht.typeIs PyProof.Rows.slot_tuple_getitem.lookup ?_ (by with_unfolding_all rfl)
    refine get_tup ht hz pl pu ps ?_ (by rw [List.size_toArray]; omega)
    refine ⟨.ref _, _, I5.laid (t' := s4.toks) (o := .tup xs.reverse) (fun b ob q => Heap.get?_push_of_some _ q) (Nat.le_refl _) ?_, rfl, q _ (I5.hok.fresh (Nat.le_refl _))⟩
    exact ⟨by rw [List.length_reverse]; exact hz', _, r.reverse, IsTup.new _ _⟩
  · obtain ⟨t, rfl⟩ := r1
    refine tail_any (ops := [.str z t, .ref s4.heap.objs.size]) (typeIs_str _ _ _) F.slot_str_getitem.lookup ?_ (by with_unfolding_all rfl)
    cases pl
    cases pu
    cases ps with
    | int i t3 =>
      obtain ⟨oz, g1, g2, g3⟩ := hz
      refine wpAny_getItem_str_slice (l := none) (u := none) (st := some (-1, t3)) ⟨oz, g1, g2, g3⟩ rfl ?_
      show Made.post (if ((-1 : Int) == 1 && (Builtin.Str.strSliceIndices none none (-1) z.length).length == z.length) = true then Made.val (.str z t)
        else Made.str ⟨((Builtin.Str.strSliceIndices none none (-1) z.length).filterMap (z.cps[·]?)).toArray⟩) (EP X pins σ Q) _
      rw [if_neg (by rw [show ((-1 : Int) == 1) = false by decide, Bool.false_and]; exact Bool.false_ne_true), str_pick]
      refine ⟨?_, .str _, H4, I5.tok _, ⟨_, rfl⟩, q⟩
      show (z.cps.toList.reverse.toArray).size ≤ sizeLine
      rw [List.size_toArray, List.length_reverse, Array.length_toList]
      exact hl
end RV
open PySem PySem.Spec PyProof.Rows L2
def pRev : List D → Option RV
  | [.lst ds] => some ⟨.lst ds.reverse, true⟩
  | [.tup ds] => some ⟨.tup ds.reverse, false⟩
  | [.str z] => if z.length ≤ sizeLine then some ⟨.str (RV.revS z), false⟩ else none
  | _ => none
section
variable {X : Cx} {o : Expr} {A : Arg} {k : Nat} {p1 p2 p3 pos : Pos}
theorem de_rev (ho : DP X o A) : DE X (.Subscript o (.Slice none none (some (.UnaryOp .USub (.Constant (.int 1) k p1) p2)) p3) pos) (fPrim pRev [A]) := fun Γ => peM (RV.pe_rev (ho Γ)) fun σ H Q h => by
  have h1 := prim_one h
  obtain ⟨τ, ok, h1⟩ := h1
  refine ⟨τ, ok, ?_⟩
  cases e1 : fArg A τ with
  | bad => rw [e1] at h1; exact h1
  | ex e' τ' => rw [e1] at h1; exact h1
  | ok pk τ1 =>
    rw [e1] at h1
    intro v H1 s1 ok1 k1
    obtain ⟨O, ds, r, ra, hp, q⟩ := h1 v H1 s1 ok1 k1
    unfold pRev at hp
    split at hp
    · cases hp
      obtain ⟨x', e, r1⟩ := ra1 ra
      cases e
      obtain ⟨a, xs, rfl, h1, t1⟩ := rep_lst r1
      exact .inl ⟨a, xs, rfl, h1, fun p hp => q _ _ (.new_lst hp t1.reverse)⟩
    · cases hp
      obtain ⟨x', e, r1⟩ := ra1 ra
      cases e
      obtain ⟨a, xs, rfl, h1, t1⟩ := rep_tup r1
      exact .inr (.inl ⟨a, xs, rfl, h1, fun p hp => q _ _ (.new_tup hp t1.reverse)⟩)
    · split at hp
      · rename_i hz
        cases hp
        obtain ⟨x', e, r1⟩ := ra1 ra
        cases e
        cases rep_str r1
        exact .inr (.inr ⟨_, rfl, hz, q _ _ (.same (.str _))⟩)
      · cases hp
    · cases hp
end
end Wt
set_option autoImplicit false
set_option Elab.async false
set_option linter.all false
set_option maxRecDepth 100000
set_option maxHeartbeats 2000000
/-! Wt.More2: repr of any data, sorted of alike tuples, a bool is a bool, a word in a table. -/
namespace Wt
open PySem PySem.Spec PyProof.Rows L2 PySem.W
section
variable {X : Cx}
/-! ### repr -/
def pReprX : List D → Option RV
  | [.non] => some ⟨.str "None", false⟩
  | [.bl b] => some ⟨.str (if b then "True" else "False"), false⟩
  | [.int i] => if i.natAbs.log2 < 1920 then some ⟨.str (toString i), false⟩ else none
  | [.str z] => if (reprText z).length ≤ sizeLine then some ⟨.str (reprText z), false⟩ else none
  | l => pRepr l
theorem pc_reprX (hu : X.A.units + 100 < cLine) (hG : X.A.guards = some []) : PrimC X (.builtin "repr") pReprX := fun pins s σ H vs us Q I rv h => by
  obtain ⟨O, ds, r, ra, hp, q⟩ := h
  unfold pReprX at hp
  split at hp
  · obtain ⟨x, rfl, r1⟩ := ra1 ra
    cases hp
    cases rep_non r1
    obtain ⟨u, rfl, ru⟩ := vals1 rv
    cases (show u = Value.none from ru)
    exact PySem.P.repr_of_none ⟨.str _, H, I.tok _, ⟨_, rfl⟩, q _ _ (.same (.str _))⟩
  · obtain ⟨x, rfl, r1⟩ := ra1 ra
    cases hp
    cases rep_bl r1
    obtain ⟨u, rfl, ru⟩ := vals1 rv
    cases ru
    exact PySem.P.repr_of_bool ⟨.str _, H, I.tok _, ⟨_, rfl⟩, q _ _ (.same (.str _))⟩
  · split at hp
    · rename_i hz
      obtain ⟨x, rfl, r1⟩ := ra1 ra
      cases hp
      cases rep_int r1
      exact SkE.call_repr_int pins s σ H _ us Q I rv ⟨_, rfl, hz, q _ _ (.same (.str _))⟩
    · cases hp
  · split at hp
    · rename_i hz
      obtain ⟨x, rfl, r1⟩ := ra1 ra
      cases hp
      cases rep_str r1
      obtain ⟨u, rfl, t, rfl⟩ := vals1 rv
      exact PySem.P.repr_of_str ⟨.str _, H, I.tok _, ⟨_, rfl⟩, q _ _ (.same (.str _))⟩ hz
    · cases hp
  · exact pc_repr hu hG pins s σ H vs us Q I rv ⟨O, _, r, ra, hp, q⟩
/-! ### sorted of tuples that are alike -/
def alikeB (ds : List D) : Bool := (ds.all fun d => ds.all fun e => alike (toP d) (toP e)) && ds.all fun d => match d with | .tup (_ :: _) => true | _ => false
def pSortedX : List D → Option RV
  | [.lst ds] => if plains ds && decide (ds.length ≤ sizeLine) && (ds.all fun d => decide ((toP d).depth ≤ 60)) && alikeB ds then some ⟨.lst (ds.mergeSort leD), true⟩ else none
  | _ => none
theorem pc_sortedX (hu : X.A.units + 100 < cLine) : PrimC X (.builtin "sorted") pSortedX := fun pins s σ H vs us Q I rv h => by
  obtain ⟨O, ds, r, ra, hp, q⟩ := h
  unfold pSortedX at hp
  split at hp
  · rename_i ds
    obtain ⟨x, rfl, r1⟩ := ra1 ra
    split at hp
    · rename_i hz
      cases hp
      rw [Bool.and_eq_true, Bool.and_eq_true, Bool.and_eq_true] at hz
      obtain ⟨⟨⟨z1, z2⟩, z3⟩, z4⟩ := hz
      have z2 := of_decide_eq_true z2
      unfold alikeB at z4
      rw [Bool.and_eq_true] at z4
      obtain ⟨a, xs, rfl, h1, t1⟩ := rep_lst r1
      obtain ⟨its, rv', hl, hlen⟩ := I.list h1
      rw [Vals.ref1 rv]
      obtain ⟨e1, e2⟩ := rep_each I t1 rv' z1
      refine sorted_data hl.isList e1 e2 (fun d hd d' hd' => ?_) (.inl fun d hd => ?_) z2 (fun b hb => ?_) fun out ho hE => ?_
      · obtain ⟨b, hb, rfl⟩ := List.mem_map.mp hd
        obtain ⟨b', hb', rfl⟩ := List.mem_map.mp hd'
        exact List.all_eq_true.mp (List.all_eq_true.mp z4.1 b hb) b' hb'
      · obtain ⟨b, hb, rfl⟩ := List.mem_map.mp hd
        have := List.all_eq_true.mp z4.2 b hb
        cases b with
        | tup l =>
          cases l with
          | nil => cases this
          | cons x r => exact ⟨toP x, toPs r, by simp [toP, toPs]⟩
        | _ => cases this
      · have := of_decide_eq_true (List.all_eq_true.mp z3 b hb)
        omega
      · obtain ⟨ws, k1, k2⟩ := each_rep hE
        obtain ⟨ep, he'⟩ := PyProof.Rows.sortedAll_at s.heap its (List.toArray out)
        have hz : ws.length ≤ sizeLine := by rw [k1.length, ho]; exact z2
        exact ⟨.ref _, upd H (s.heap.objs.size + 1) (.lst ws), I.laid (t' := s.toks) (fun _ _ => PyProof.Rows.sortedAll_old) (Nat.le_succ _) ⟨hz, out, ep, k1, he'⟩, rfl, q _ _ (.new_lst (I.hok.fresh (Nat.le_succ _)) k2)⟩
    · cases hp
  · cases hp
/-! ### is True, is False -/
def pIsB : List D → Option RV
  | [.bl a, .bl b] => some ⟨.bl (a == b), false⟩
  | _ => none
theorem po_isB : PrimO X (compareOp .Is) pIsB := fun pins s σ H x y v u Q I rx ry h => by
  obtain ⟨O, ds, r, ra, hp, q⟩ := h
  unfold pIsB at hp
  split at hp
  · rename_i a b
    obtain ⟨x', y', e, r1, r2⟩ := ra2 ra
    cases e; cases hp
    cases rep_bl r1
    cases rep_bl r2
    cases rx
    cases ry
    show wpAny _ _ (isSame (Value.bool a) (Value.bool b) >>= fun z => pure (Value.bool z)) _ _ s
    refine wpAny_bind (wpAny_of_eq (a := (a == b)) ?_ (wpAny_pure ⟨.bl _, H, I, rfl, q _ _ (.same (.bl _))⟩))
    cases a <;> cases b <;> rfl
  · cases hp
end
end Wt
set_option autoImplicit false
set_option Elab.async false
set_option linter.all false
set_option maxRecDepth 100000
set_option maxHeartbeats 3200000
/-! Wt.Set: sorted(set(..)) of texts. -/
namespace Wt
namespace SE
open PySem PySem.Spec PyProof.Rows L2
/-- a set's object with the entries l, in some order; it may be walked -/
def Has (w : World) (h : Heap) (a : Addr) (l : List (Int × Value)) : Prop :=
  ∃ o es ep t, h.get? a = some o ∧ o.ExactSet ∧ o.data = .set es ep t ∧ es.toList.Perm l ∧ es.size < scanBound ∧ t.fits es.size = true ∧ Ris t.place.toList ∧ (w.params.followText "set-order" = true ∨ t.led = true)
section
variable {P : Program} {w : World} {A : Around} {E : Value → Shared → Prop} {s : Shared} {a : Addr} {l : List (Int × Value)} {κ : Type} [DecidableEq κ] {kd : KeyKind P w κ}
theorem Has.keep {h h' : Heap} (R : Has w h a l) (k : ∀ o, h.get? a = some o → h'.get? a = some o) : Has w h' a l := by
  obtain ⟨o, es, ep, t, ho, r⟩ := R
  exact ⟨o, es, ep, t, k _ ho, r⟩
theorem rest {f : Bool → Sem Unit} (hf : ∀ (b : Bool) (u : Shared) (W : Unit → Shared → Prop), W () u → wpAny (model P w) A (f b) W E u)
    {o : Obj} {es xs : Array (Int × Value)} {ep : Nat} {t t1 : SetTable} (ho : s.heap.get? a = some o) (hx : o.ExactSet) (hd : o.data = .set es ep t) (hp : xs.toList.Perm l) (hb : xs.size < scanBound)
    (h1 : t1.fits xs.size = true) (h2 : Ris t1.place.toList) (h3 : w.params.followText "set-order" = true ∨ t1.led = true) {dm : Bool} {W : Option Bool → Shared → Prop}
    (q : ∀ h', Heap.SameBut a s.heap h' → Has w h' a l → W (some true) { s with heap := h' }) :
    wpAny (model P w) A (do
        storeSet a xs t1
        if (!dm && t1.tooFull) = true then do
            f (relayAll t1 xs (SetTable.grown xs.size)).2.2
            storeSet a (relayAll t1 xs (SetTable.grown xs.size)).1 (relayAll t1 xs (SetTable.grown xs.size)).2.1
            pure (some true)
          else pure (some true)) W E s := by
  refine wpAny_bind (wpAny_storeSet_of ho hd ?_ (fits_of_scanBound hb))
  have g1 := store_at (es' := xs) (t' := t1) ho hd
  have sb := Heap.SameBut.update s.heap a (Obj.putSet xs t1)
  split
  · have p2 := relayAll_perm t1 xs (SetTable.grown xs.size)
    have f2 := relayAll_fits t1 xs (SetTable.grown xs.size)
    have r2 := relayAll_ris t1 xs (SetTable.grown xs.size)
    have l2 := relayAll_led t1 xs (SetTable.grown xs.size)
    generalize relayAll t1 xs (SetTable.grown xs.size) = z at p2 f2 r2 l2 ⊢
    obtain ⟨ys, t2, gv⟩ := z
    dsimp only at p2 f2 r2 l2 ⊢
    have e : ys.size = xs.size := by
      have := p2.length_eq
      simpa using this
    have hb' : ys.size < scanBound := e ▸ hb
    refine wpAny_bind (hf _ _ _ (wpAny_bind (wpAny_storeSet_of g1 rfl ?_ (fits_of_scanBound hb'))))
    have g2 := store_at (es' := ys) (t' := t2) g1 rfl
    exact wpAny_pure (q _ (sb.trans (Heap.SameBut.update _ a _)) ⟨_, ys, _, t2, g2, hx, rfl, p2.trans hp, hb', f2, r2, h3.imp id fun z => l2.trans z⟩)
  · exact wpAny_pure (q _ sb ⟨_, xs, _, t1, g1, hx, rfl, hp, hb, h1, h2, h3⟩)
/-- one more member, or none -/
theorem put {k : κ} {v : Value} {Q : Bool → Shared → Prop} (hk : kd.is k v = true) (hs : v.scannable = true) (R : Has w s.heap a l) (el : ElemsOf kd l) (room : l.length + 1 < scanBound)
    (q1 : (∃ e ∈ l, kd.is k e.2 = true) → Q false s) (q2 : (∀ e ∈ l, kd.is k e.2 = false) → ∀ h', Heap.SameBut a s.heap h' → Has w h' a ((kd.hash k, v) :: l) → Q true { s with heap := h' }) :
    wpAny (model P w) A (setAddHashed a v (kd.hash k)) Q E s := by
  obtain ⟨o, es, ep, t, ho, hx, hd, hp, hb, hf, hr, hl⟩ := R
  have el' : ElemsOf kd es.toList := el.perm hp
  have hn : es.size = l.length := by
    have := hp.length_eq
    simpa using this
  unfold setAddHashed setAddHashedIn
  refine wpAny_holding (wpAny_bind (wpAny_setState_of ho hd hf ?_))
  dsimp only
  rw [byScan_of hs hb el']
  simp only [↓reduceIte]
  unfold setAddByScan
  refine wpAny_bind (wpAny_bind (wpAny_rule (wpAny_bind (wpAny_setScan_of hk ho hd hf el' ?_))))
  cases fi : List.findIdx? (fun e => kd.is k e.2) es.toList with
  | some j =>
    obtain ⟨lt, pj, _⟩ := List.findIdx?_eq_some_iff_getElem.mp fi
    exact wpAny_pure (wpAny_pure (q1 ⟨es.toList[j], hp.mem_iff.mp (List.getElem_mem lt), pj⟩))
  | none =>
    dsimp only
    have no : ∀ e ∈ l, kd.is k e.2 = false := fun e he => by
      have := List.findIdx?_eq_none_iff.mp fi e (hp.mem_iff.mpr he)
      simpa using this
    have gw : ∀ (b : Bool) {u : Shared} {W : Unit → Shared → Prop}, W () u → wpAny (model P w) A (match b with | true => rule "set.scan.the-table-gave-way" | false => pure ()) W E u :=
      fun b u W z => by cases b; exact wpAny_pure z; exact wpAny_rule z
    have p1 := layNew_perm t es (kd.hash k) v
    have f1 := layNew_fits t es (kd.hash k) v
    have r1 := layNew_ris t es (kd.hash k) v hr
    have l1 := layNew_led t es (kd.hash k) v
    generalize layNew t es (kd.hash k) v = z at p1 f1 r1 l1 ⊢
    obtain ⟨xs, t1, dm, gv⟩ := z
    dsimp only at p1 f1 r1 l1 ⊢
    rw [Array.toList_push] at p1
    have pc : xs.toList.Perm ((kd.hash k, v) :: l) := p1.trans ((List.perm_append_singleton _ _).trans (hp.cons _))
    have hb1 : xs.size < scanBound := by
      have := pc.length_eq
      simp at this
      omega
    have led : w.params.followText "set-order" = true ∨ t1.led = true := hl.imp id fun z => l1.trans z
    refine wpAny_bind (gw _ ?_)
    split
    · refine wpAny_bind ?_
      rw [hashByValue_scannable 8 hs]
      refine wpAny_pure (rest (fun b u W z => by cases b; exact wpAny_pure z; exact wpAny_rule z) ho hx hd pc hb1 ?_ ?_ ?_ fun h' sb r => wpAny_pure (q2 no h' sb r))
      · first | exact f1 | (split <;> first | exact f1 | exact SetTable.fits_plain_off f1)
      · first | exact r1 | (split <;> exact r1)
      · first | exact led | (split <;> exact led)
    · refine wpAny_bind (wpAny_pure ?_)
      simp only [↓reduceIte]
      exact rest (fun b u W z => by cases b; exact wpAny_pure z; exact wpAny_rule z) ho hx hd pc hb1 f1 r1 led fun h' sb r => wpAny_pure (q2 no h' sb r)
end
/-! ### a tuple's texts -/
def keyS (e : Int × Value) : Str := match e.2 with | .str k _ => k | _ => Str.empty
def Good (e : Int × Value) : Prop := ∃ k t, e.2 = .str k t
/-- l tells the texts zs, each once -/
structure Tells (P : Program) (w : World) (l : List (Int × Value)) (zs : List Str) : Prop where
  el : ElemsOf (strKind P w) l
  gd : ∀ e ∈ l, Good e
  nd : (l.map keyS).Nodup
  mm : ∀ z, z ∈ l.map keyS ↔ z ∈ zs
theorem is_key {P : Program} {w : World} {e : Int × Value} {z : Str} (g : Good e) : (strKind P w).is z e.2 = true ↔ keyS e = z := by
  obtain ⟨k, t, h⟩ := g
  unfold keyS
  rw [h]
  show Value.isStrOf z (.str k t) = true ↔ k = z
  simp [Value.isStrOf]
section
variable {P : Program} {w : World} {A : Around} {E : Value → Shared → Prop} {s : Shared}
theorem Tells.old {l : List (Int × Value)} {zs : List Str} {z : Str} (T : Tells P w l zs) (h : ∃ e ∈ l, (strKind P w).is z e.2 = true) : Tells P w l (zs ++ [z]) := by
  obtain ⟨e, he, hz⟩ := h
  have hk := (is_key (T.gd e he)).mp hz
  refine ⟨T.el, T.gd, T.nd, fun y => ?_⟩
  rw [T.mm, List.mem_append, List.mem_singleton]
  refine ⟨.inl, fun h => h.elim id fun h => ?_⟩
  rw [h, ← T.mm, ← hk]
  exact List.mem_map_of_mem he
theorem Tells.new {l : List (Int × Value)} {zs : List Str} {z : Str} {t : Tok} (T : Tells P w l zs) (h : ∀ e ∈ l, (strKind P w).is z e.2 = false) : Tells P w (((strKind P w).hash z, .str z t) :: l) (zs ++ [z]) := by
  have hn : z ∉ l.map keyS := fun hm => by
    obtain ⟨e, he, hz⟩ := List.mem_map.mp hm
    have h1 := (is_key (P := P) (w := w) (T.gd e he)).mpr hz
    rw [h e he] at h1
    cases h1
  refine ⟨fun e he => ?_, fun e he => ?_, List.nodup_cons.mpr ⟨hn, T.nd⟩, fun y => ?_⟩
  · rcases List.mem_cons.mp he with rfl | he
    · exact ⟨⟨z, strKind_is _ _ _ _, rfl⟩, rfl⟩
    · exact T.el e he
  · rcases List.mem_cons.mp he with rfl | he
    · exact ⟨z, t, rfl⟩
    · exact T.gd e he
  · rw [List.map_cons, List.mem_cons, T.mm, List.mem_append, List.mem_singleton]
    exact Or.comm
theorem Tells.len {l : List (Int × Value)} {zs : List Str} (T : Tells P w l zs) : l.length ≤ zs.length := by
  have := List.Nodup.length_le_of_subset T.nd fun y hy => (T.mm y).mp hy
  simpa using this
theorem fill {I : Addr} {fp wr : List Addr} {G : Array GenState → Array GenState → Prop} {n : Nat} {Pv : Nat → Value → Prop} {St : Nat → Shared → Prop} {R : Result → Shared → Prop} {S : Addr} {zs : List Str}
    (W : WalksS P w A.in1 I fp wr G n Pv St) (hS : S ∉ fp) (hn : n = zs.length) (hb : zs.length + 1 < scanBound) (hv : ∀ i v, Pv i v → ∃ k t, zs[i]? = some k ∧ v = .str k t) :
    ∀ (m i : Nat) (s : Shared) (l : List (Int × Value)), n - i = m → i ≤ n → St i s → Has w s.heap S l → Tells P w l (zs.take i) →
      (∀ s' l', Moved (S :: wr) G s s' → Has w s'.heap S l' → Tells P w l' zs → R (.ok (.ret .none)) s') →
      codeAny (model P w) A (.builtin "set.update.loop" ⟨[.ref S, .ref I], []⟩) R s := by
  have hSw : S ∉ wr := fun h => hS (W.sub _ h)
  have up : ∀ b ∈ wr, b ∈ S :: wr := fun b hb => List.mem_cons_of_mem _ hb
  intro m
  induction m with
  | zero =>
    intro i s l hm hi st hH hT q
    refine codeAny_builtin F.entry_set_update_loop ?_
    rw [Around.under_plainId F.plain_set_update_loop _]
    have e : i = n := by omega
    subst e
    show wpAny _ A.in1 (pyNext (.ref I) >>= _) _ _ s
    refine wpAny_bind (W.done s _ _ st fun s' mv => ?_)
    rw [List.take_of_length_le (by omega)] at hT
    show wpAny _ A.in1 (ret Value.none) _ _ s'
    exact wpAny_pure (q s' l (mv.mono up) (hH.keep fun o e => mv.heap S o hSw e) hT)
  | succ m ih =>
    intro i s l hm hi st hH hT q
    have lt : i < n := by omega
    refine codeAny_builtin F.entry_set_update_loop ?_
    rw [Around.under_plainId F.plain_set_update_loop _]
    show wpAny _ A.in1 (pyNext (.ref I) >>= _) _ _ s
    refine wpAny_bind (W.item i s _ _ lt st fun v s1 hP st1 mv => ?_)
    obtain ⟨z, t, hz, rfl⟩ := hv i v hP
    have hH1 : Has w s1.heap S l := hH.keep fun o e => mv.heap S o hSw e
    have hl := hT.len
    rw [List.length_take] at hl
    have et : zs.take (i + 1) = zs.take i ++ [z] := by rw [List.take_add_one, hz] <;> rfl
    show wpAny _ A.in1 (holding [Value.str z t] (setAdd S (.str z t)) >>= _) _ _ s1
    refine wpAny_bind (wpAny_holding ?_)
    unfold setAdd
    refine wpAny_holding (wpAny_bind ((strKind P w).pyHash (k := z) (strKind_is _ _ _ _) ?_))
    refine put (kd := strKind P w) (s := { s1 with toks := s1.toks + 1 }) (strKind_is _ _ _ _) rfl hH1 hT.el (by omega) (fun old => ?_) fun no h' sb hH2 => ?_
    · refine wpAny_pure ⟨plainId_quiet F.plain_set_update_loop _, ih (i + 1) _ l (by omega) lt (W.frame _ s1 _ _ st1 (Nat.le_succ _) fun b hb o e => e) hH1 (by rw [et]; exact hT.old old) fun s2 l' mv2 h1 h2 => ?_⟩
      exact q s2 l' (Moved.trans W.gtrans ((mv.mono up).then_heap (Nat.le_succ _) fun b o hb e => e) mv2) h1 h2
    · have ne : ∀ b o, b ≠ S → s1.heap.get? b = some o → h'.get? b = some o := fun b o hb e => (sb.2 b hb).trans e
      refine wpAny_pure ⟨plainId_quiet F.plain_set_update_loop _, ih (i + 1) _ _ (by omega) lt (W.frame _ s1 _ _ st1 (Nat.le_succ _) fun b hb o e => ne b o (fun z => hS (z ▸ hb)) e) hH2 (by rw [et]; exact hT.new no) fun s2 l' mv2 h1 h2 => ?_⟩
      exact q s2 l' (Moved.trans W.gtrans ((mv.mono up).then_heap (Nat.le_succ _) fun b o hb e => ne b o (fun z => hb (z ▸ List.mem_cons_self)) e) mv2) h1 h2
end
end SE
end Wt
set_option autoImplicit false
set_option Elab.async false
set_option linter.all false
set_option maxRecDepth 100000
set_option maxHeartbeats 3200000
/-! Wt.Set2: set(tuple of texts) made. -/
namespace Wt
namespace SE
open PySem PySem.Spec PyProof.Rows L2
abbrev nu (w : World) : Obj := { cls := .type "set", dict := none, data := .set #[] 0 (.fresh 0 0 (!w.params.followText "set-order")) }
theorem has_new {w : World} {h : Heap} {a : Addr} (g : h.get? a = some (nu w)) : Has w h a [] :=
  ⟨_, #[], 0, _, g, ⟨rfl, rfl, rfl⟩, rfl, .nil, by decide, by rfl, List.Pairwise.nil, by
    show _ ∨ (!w.params.followText "set-order") = true
    cases w.params.followText "set-order"
    · exact .inr rfl
    · exact .inl rfl⟩
theorem tells_nil {P : Program} {w : World} : Tells P w [] [] := ⟨fun e h => (by cases h), fun e h => (by cases h), List.Pairwise.nil, fun z => (by simp)⟩
theorem strs_at {vs : List Value} {zs : List Str} (h : StrsAre vs zs) : ∀ (i : Nat) (v : Value), vs[i]? = some v → ∃ k t, zs[i]? = some k ∧ v = .str k t := by
  induction h with
  | nil => intro i v e; simp at e
  | cons y t _ ih =>
    intro i v e
    cases i with
    | zero => simp at e; exact ⟨y, t, by simp, e.symm⟩
    | succ i => simp at e; simpa using ih i v e
theorem strs_len {vs : List Value} {zs : List Str} (h : StrsAre vs zs) : vs.length = zs.length := by
  induction h with
  | nil => rfl
  | cons y t _ ih => simp [ih]
section
variable {P : Program} {w : World} {A : Around} {E : Value → Shared → Prop} {s : Shared}
theorem made {l : Addr} {its : Array Value} {zs : List Str} {Q : Value → Shared → Prop} (hh : A.handled = none) (hl : s.heap.IsTuple l its) (hi : StrsAre its.toList zs) (hb : zs.length + 1 < scanBound)
    (q : ∀ h' tk L, Has w h' s.heap.objs.size L → Tells P w L zs → (∀ b o, s.heap.get? b = some o → h'.get? b = some o) → Q (.ref s.heap.objs.size) { s with heap := h', toks := tk }) :
    wpAny (model P w) A (call (.type "set") [.ref l]) Q E s := by
  have ez : its.size = zs.length := by
    have := strs_len hi
    simpa using this
  obtain ⟨cc, tl, hmro⟩ := F.called_set.mro
  have hmd := F.called_set.made
  have hsb := F.called_set.sub
  refine wpAny_call (codeAny_of_tree ?_)
  show wpAny _ _ (callAny (.type "set") _) _ _ _
  refine wpAny_pure ⟨Code.quiet_builtin _ (by decide +kernel), codeAny_builtin F.entry_type_call ?_⟩
  rw [Around.under_plain (weight_type_call_type "set" [.ref l] []) rfl]
  have k1 := F.called_set.notType
  have k2 := F.called_set.canCreate
  have k3 := F.typeCall_set_1 (.ref l)
  repeat (any_goals (first | assumption | wp_step))
  refine codeAny_mono (code_set_led1 (.ref l) (E := E) (Q₁ := fun z u => z = .ref s.heap.objs.size ∧ u = { s with heap := s.heap.push (nu w) }) ⟨rfl, rfl⟩) fun r u hr => ?_
  cases r with
  | error e => exact hr
  | ok fl =>
    cases fl with
    | ret z =>
      obtain ⟨rfl, rfl⟩ := hr
      have gS : (s.heap.push (nu w)).get? s.heap.objs.size = some (nu w) := Heap.get?_push_size _ rfl
      have hT : Shared.TypeIs { s with heap := s.heap.push (nu w) } (.ref s.heap.objs.size) "set" := ⟨_, gS, rfl⟩
      have k4 := F.called_set.init.lookup
      have k5 := F.called_set.init.bind (.ref s.heap.objs.size)
      repeat (any_goals (first | assumption | wp_step))
      refine codeAny_mono (codeAny_call_builtin (R := wants (fun r u => r = .none ∧ ∃ h' tk L, u = { s with heap := h', toks := tk } ∧ Has w h' s.heap.objs.size L ∧ Tells P w L zs ∧ ∀ b o, s.heap.get? b = some o → h'.get? b = some o) E)
        F.called_set.init.plain F.entry_set_init (check_set_init_1 hT ?_)) fun r2 u2 hr2 => ?_
      · obtain ⟨ol, g0, c0, nl, d0⟩ := hl
        obtain ⟨oc, od, oa, os⟩ := ol
        simp only at c0 d0
        subst c0; subst d0
        have g1 : (s.heap.push (nu w)).get? l = some { cls := .type "tuple", dict := od, data := .seq its nl, slots := os } := Heap.get?_push_of_some _ g0
        have s1 := F.sub_tuple_set
        have s2 := F.sub_tuple_frozenset
        have s3 : (Value.type "tuple" == Value.type "dict") = false := by decide
        have t1 : (s.heap.push (nu w)).IsTuple l its := ⟨_, g1, rfl, nl, rfl⟩
        unfold Builtin.«set.__init__» noKeywords Builtin.Frozenset.updateFrom
        generalize hPI : pyIter = PI
        wp_walk
        subst hPI
        refine wpAny_pyIter_tuple t1 (wpAny_bind (wpAny_runValue ?_))
        have ll : l < s.heap.objs.size := Heap.lt_size g0
        have hh3 : A.in1.in1.in1.handled = none := by simp [hh]
        have n1 : l ≠ (s.heap.push (nu w)).objs.size := by rw [Heap.size_push]; exact Nat.ne_of_lt (Nat.lt_succ_of_lt ll)
        have n2 : s.heap.objs.size ∉ [(s.heap.push (nu w)).objs.size, l] := by
          rw [Heap.size_push]
          simp only [List.mem_cons, List.not_mem_nil, or_false, not_or]
          exact ⟨Nat.ne_of_lt (Nat.lt_succ_self _), Nat.ne_of_gt ll⟩
        refine fill (zs := zs) ((Walks.tuple hh3 _ l n1 its).toS) n2 ez hb (fun i v hv => strs_at hi i v (by rw [Array.getElem?_toList]; exact hv)) its.size 0 _ [] (by omega) (Nat.zero_le _)
          ⟨⟨_, Heap.get?_push_size _ rfl, rfl, rfl⟩, t1.push _⟩ (has_new (Heap.get?_push_of_some _ gS)) (by rw [List.take_zero]; exact tells_nil) fun s' L mv h1 h2 => ?_
        obtain ⟨h', g', d', tk', os'⟩ := s'
        have eg : g' = s.gens := mv.gens
        have ed : d' = s.drawn := mv.drawn
        have eo : os' = s.os := mv.os
        subst eg; subst ed; subst eo
        show wpAny _ _ _ _ _ _
        refine wpAny_pure ?_
        show wpAny _ _ (ret Value.none) _ _ _
        refine wpAny_pure ⟨rfl, h', tk', L, rfl, h1, h2, fun b o e => ?_⟩
        have lb : b < s.heap.objs.size := Heap.lt_size e
        refine mv.heap b o ?_ (Heap.get?_push_of_some _ (Heap.get?_push_of_some _ e))
        rw [Heap.size_push]
        simp only [List.mem_cons, List.not_mem_nil, or_false, not_or]
        exact ⟨Nat.ne_of_lt lb, Nat.ne_of_lt (Nat.lt_succ_of_lt lb)⟩
      · cases r2 with
        | error e => exact hr2
        | ok f2 =>
          cases f2 with
          | ret r =>
            obtain ⟨rfl, h', tk, L, rfl, a1, a2, a3⟩ := hr2
            repeat (any_goals (first | assumption | wp_step))
            exact q _ _ _ a1 a2 a3
          | _ => exact hr2.elim
    | _ => exact hr.elim
end
end SE
end Wt
set_option autoImplicit false
set_option Elab.async false
set_option linter.all false
set_option maxRecDepth 100000
set_option maxHeartbeats 3200000
/-! Wt.Set3: sorted(set(tuple of texts)); a word in a table. -/
namespace Wt
namespace SE
open PySem PySem.Spec PyProof.Rows L2 PySem.W
/-- each once -/
def ded : List Str → List Str
  | [] => []
  | z :: r => if z ∈ r then ded r else z :: ded r
theorem mem_ded (y : Str) : ∀ zs : List Str, y ∈ ded zs ↔ y ∈ zs
  | [] => Iff.rfl
  | z :: r => by
    unfold ded
    by_cases h : z ∈ r
    · rw [if_pos h, mem_ded y r, List.mem_cons]
      exact ⟨.inr, fun q => q.elim (fun e => e ▸ h) id⟩
    · rw [if_neg h, List.mem_cons, List.mem_cons, mem_ded y r]
theorem nodup_ded : ∀ zs : List Str, (ded zs).Nodup
  | [] => List.Pairwise.nil
  | z :: r => by
    unfold ded
    by_cases h : z ∈ r
    · rw [if_pos h]; exact nodup_ded r
    · rw [if_neg h]; exact List.nodup_cons.mpr ⟨fun q => h ((mem_ded z r).mp q), nodup_ded r⟩
def leS (a b : Str) : Bool := !decide (b.cps.toList < a.cps.toList)
theorem leS_eq (a b : Str) : dataLe false PyData.str a b = leS a b := by
  show (!dataLt (.str b) (.str a)) = leS a b
  rw [dataLt_str]; rfl
theorem le_un {a b : Str} (h1 : leS a b = true) (h2 : leS b a = true) : a = b := by
  unfold leS at h1 h2
  simp only [Bool.not_eq_true', decide_eq_false_iff_not] at h1 h2
  have e : a.cps.toList = b.cps.toList := List.le_antisymm h1 h2
  obtain ⟨x⟩ := a
  obtain ⟨y⟩ := b
  have : x = y := Array.ext' e
  rw [this]
theorem le_trans' (a b c : Str) (h1 : leS a b = true) (h2 : leS b c = true) : leS a c = true := by
  unfold leS at *
  simp only [Bool.not_eq_true', decide_eq_false_iff_not] at *
  exact List.le_trans h1 h2
theorem le_total (a b : Str) : (leS a b || leS b a) = true := by
  unfold leS
  simp only [Bool.or_eq_true, Bool.not_eq_true', decide_eq_false_iff_not]
  exact List.le_total _ _
/-- the texts, each once, in order -/
def srt (zs : List Str) : List Str := (ded zs).mergeSort leS
theorem srt_un {ys zs : List Str} (h1 : ys.Nodup) (h2 : ∀ z, z ∈ ys ↔ z ∈ zs) : ys.mergeSort (dataLe false PyData.str) = srt zs := by
  have e : dataLe false PyData.str = leS := funext fun a => funext fun b => leS_eq a b
  rw [e]
  have p : ys.Perm (ded zs) := (List.perm_ext_iff_of_nodup h1 (nodup_ded zs)).mpr fun z => (h2 z).trans (mem_ded z zs).symm
  exact List.Perm.eq_of_pairwise (fun a b _ _ x y => le_un x y) (List.pairwise_mergeSort le_trans' le_total _) (List.pairwise_mergeSort le_trans' le_total _)
    ((List.mergeSort_perm ys leS).trans (p.trans (List.mergeSort_perm (ded zs) leS).symm))
theorem srt_len (zs : List Str) : (srt zs).length ≤ zs.length := by
  unfold srt
  rw [List.length_mergeSort]
  exact List.Nodup.length_le_of_subset (nodup_ded zs) fun y hy => (mem_ded y zs).mp hy
section
variable {P : Program} {w : World} {A : Around} {E : Value → Shared → Prop} {s : Shared}
theorem strs_is : ∀ {vs : List Value}, (∀ v ∈ vs, ∃ k t, v = .str k t) → EachIs (fun v b => ∃ t, v = Value.str b t) vs (vs.map fun v => match v with | .str k _ => k | _ => Str.empty)
  | [], _ => .nil
  | v :: r, h => by
    obtain ⟨k, t, rfl⟩ := h v List.mem_cons_self
    exact .cons ⟨t, rfl⟩ (strs_is fun u hu => h u (List.mem_cons_of_mem _ hu))
theorem sort_set {a : Addr} {L : List (Int × Value)} {zs : List Str} {Q : Value → Shared → Prop} (R : Has w s.heap a L) (T : Tells P w L zs) (hh : A.handled = none) (hz : zs.length ≤ 1000) (hu : A.units + 100 < cLine)
    (q : ∀ s' p (out : List Value) (c : Nat), (∀ b o, s.heap.get? b = some o → s'.heap.get? b = some o) → s'.gens = s.gens → s'.os = s.os → s.heap.objs.size ≤ p → s'.heap.get? p = some (seqObj "list" out.toArray c) →
      EachIs (fun v b => ∃ t, v = Value.str b t) out (srt zs) → Q (.ref p) s') : wpAny (model P w) A (call (.builtin "sorted") [.ref a]) Q E s := by
  obtain ⟨o, es, ep, t, ho, hx, hd, hp, hb, hf, hr, hl⟩ := R
  refine Calls.call_function_entry kind_sorted plain_sorted entry_sorted (args_sorted1 _) ?_
  unfold Builtin.«sorted»
  refine wpAny_bind (m := checkCount "sorted" 1 1 _) (wpAny_pure ?_)
  refine wpAny_bind (collect_set (A := A.in1) hh ⟨o, ho, hx.1, hd⟩ hf hb hr hl fun s1 vs k1 z1 g1 o1 pm => ?_)
  have pv : vs.Perm (L.map (·.2)) := pm.trans (hp.map _)
  have hs : ∀ v ∈ vs, ∃ k t, v = Value.str k t := fun v hv => by
    obtain ⟨e, he, rfl⟩ := List.mem_map.mp (pv.mem_iff.mp hv)
    exact T.gd e he
  have hE := strs_is hs
  have pk : (vs.map fun v => match v with | .str k _ => k | _ => Str.empty).Perm (L.map keyS) := by
    have := pv.map fun v => match v with | Value.str k _ => k | _ => Str.empty
    rw [List.map_map] at this
    exact this
  have hlen : vs.length ≤ 1000 := by
    have h1 := T.len
    have h2 := pv.length_eq
    rw [List.length_map] at h2
    omega
  generalize (vs.map fun v => match v with | .str k _ => k | _ => Str.empty) = ys at hE pk
  have hy : ys.length = vs.length := hE.length.symm
  refine wpAny_bind (wpAny_newList ?_ (by rw [sizeLine_eq]; omega))
  have gL : (s1.heap.push (seqObj "list" vs.toArray 0)).get? s1.heap.objs.size = some (seqObj "list" vs.toArray 0) := Heap.get?_push_size _ rfl
  refine wpAny_bind (wpAny_holding (list_sort_data (s := { s1 with heap := s1.heap.push (seqObj "list" vs.toArray 0) }) (bs := ys) (enc := PyData.str) (R := fun v b => ∃ t, v = Value.str b t) gL hE (hE.mono fun v b ⟨t, e⟩ => ⟨[], by rw [e]; exact .str _ _, by simp⟩)
    (fun d hd d' hd' => ?_) (.inr fun d hd => ?_) (by rw [sizeLine_eq]; omega) (fun b hb => ?_) fun out eo hO => ?_))
  · obtain ⟨_, _, rfl⟩ := List.mem_map.mp hd
    obtain ⟨_, _, rfl⟩ := List.mem_map.mp hd'
    simp [alike]
  · obtain ⟨_, _, rfl⟩ := List.mem_map.mp hd
    exact ⟨fun z => (by cases z), fun xs z => (by cases z)⟩
  · simp only [PyData.depth]
    show A.units + 1 + 1 + 0 < cLine
    omega
  · obtain ⟨c, hc⟩ := sortedHeap_at (vs := vs) (out := List.toArray out) gL
    rw [srt_un (pk.nodup_iff.mpr T.nd) fun z => (pk.mem_iff).trans (T.mm z)] at hO
    refine wpAny_pure ⟨_, rfl, q _ s1.heap.objs.size out c (fun b u e => ?_) g1 o1 z1 hc hO⟩
    have e1 := k1 b u e
    have lt := Heap.lt_size e1
    show (sortedHeap (s1.heap.push (seqObj "list" vs.toArray 0)) s1.heap.objs.size vs (List.toArray out)).get? b = some u
    rw [sortedHeap_old (Nat.ne_of_lt lt) (by rw [size_push']; exact Nat.lt_succ_of_lt lt)]
    exact Heap.get?_push_of_some _ e1
end
theorem vals_strs : ∀ {out : List Value} {zs : List Str}, EachIs (fun v b => ∃ t, v = Value.str b t) out zs → Vals (zs.map V.str) out
  | _, _, .nil => .nil
  | _, _, .cons ⟨t, e⟩ r => .cons ⟨t, e⟩ (vals_strs r)
theorem strs_vals : ∀ {zs : List Str} {us : List Value}, Vals (zs.map V.str) us → StrsAre us zs
  | [], _, .nil => .nil
  | _ :: _, _, .cons ⟨t, e⟩ r => by subst e; exact .cons _ t (strs_vals r)
def tSortSet (K : PySem.W.Frag) (ta : TA) : TE := fun σ H Q => ta σ H fun vs H1 => ∃ a zs, vs = [.ref a] ∧ SqT K H1 a (zs.map V.str) ∧ zs.length ≤ 1000 ∧ ∀ p, H1 p = none → Q (.ref p) (upd H1 p (.lst ((srt zs).map .str)))
theorem pe_sortSet {X : Cx} {e : Expr} {ta : TA} {p p2 q2 pos : Pos} (hc : X.calm = true) (hu : X.A.units + 100 < cLine) (hg : Gl X "sorted") (hm : X.mg "sorted" = none) (hg2 : Gl X "set") (hm2 : X.mg "set" = none) (ha : PA X [e] ta)
    (he : starEach [e] X.env = (false, eval e X.env) :: starEach [] X.env := by rfl)
    (he2 : starEach [Expr.Call (.Name "set" p2) [e] [] q2] X.env = (false, eval (.Call (.Name "set" p2) [e] [] q2) X.env) :: starEach [] X.env := by rfl) :
    PE X (.Call (.Name "sorted" p) [.Call (.Name "set" p2) [e] [] q2] [] pos) (tSortSet X.K ta) := by
  refine ⟨fun pins s σ H Q I h => ?_⟩
  refine wpAny_Call_Name_kw (ld_blt I hg hm PyProof.Rows.boot_sorted ?_)
  refine PyProof.Rows.callWith_builtin1 ?_ he2 rfl
  rw [he2]
  show wpAny _ _ (spliced ((false, eval (.Call (.Name "set" p2) [e] [] q2) X.env) :: backTo pos (starEach [] X.env))) _ _ s
  refine Calls.spliced_cons ?_
  refine wpAny_Call_Name_kw (ld_blt I hg2 hm2 PyProof.Rows.boot_set ?_)
  refine PyProof.Rows.callWith_type1 (thn (ha.run q2 pins s σ H _ I h) fun us s1 ⟨vs, H1, I1, r1, q1⟩ => ?_) he rfl
  obtain ⟨a, zs, rfl, hq, hz, q⟩ := q1
  obtain ⟨its, rv, ht, hl⟩ := I1.tuple hq
  rw [Vals.ref1 r1]
  refine made (I1.ok.hd hc) ht (strs_vals rv) (by unfold scanBound; omega) fun h' tk L hH hT hk => ?_
  have I2 : Inv X pins σ H1 { s1 with heap := h', toks := tk } := I1.kept hk
  refine Calls.spliced_nil ?_
  refine sort_set (s := { s1 with heap := h', toks := tk }) hH hT (I2.ok.hd hc) hz hu fun s' p out c k g o hp hgp hO => ?_
  have hlen : ((srt zs).map V.str).length ≤ sizeLine := by
    have := srt_len zs
    rw [List.length_map, sizeLine_eq]; omega
  have hn : H1 p = none := I2.hok.fresh hp
  have J : Inv X pins σ (upd H1 p (.lst ((srt zs).map V.str))) { ({ s1 with heap := h', toks := tk } : Shared) with heap := s'.heap, gens := s'.gens, drawn := s'.drawn, toks := s'.toks } :=
    I2.call (ch := []) (Un.laid k hp hn) (I2.hok.laid k hp ⟨hlen, out, c, vals_strs hO, hgp⟩) (by rw [g]; exact I2.bare) (fun _ z => nomatch z)
  have e : s' = { ({ s1 with heap := h', toks := tk } : Shared) with heap := s'.heap, gens := s'.gens, drawn := s'.drawn, toks := s'.toks } := by
    cases s'
    cases o
    rfl
  rw [e]
  exact ⟨.ref p, _, J, rfl, q p hn⟩
end SE
open PySem PySem.Spec PyProof.Rows L2
def pSortSet : List D → Option RV
  | [.tup ds] => match strsOf ds with
    | some zs => if zs.length ≤ 1000 then some ⟨.lst ((SE.srt zs).map .str), true⟩ else none
    | none => none
  | _ => none
section
variable {X : Cx} {e : Expr} {A : Arg} {p p2 q2 pos : Pos}
theorem rep_strs {K : PySem.W.Frag} {mg : Str → Option Value} {O : As} {H : Hp} : ∀ {vs : List V} {zs : List Str}, RepA K mg O H vs (zs.map .str) → vs = zs.map V.str
  | _, [], .nil => rfl
  | _, _ :: _, .cons r t => by cases r; rw [List.map_cons, rep_strs t]
theorem strs_rep {K : PySem.W.Frag} {mg : Str → Option Value} {O : As} {H : Hp} : ∀ zs : List Str, RepA K mg O H (zs.map V.str) (zs.map .str)
  | [] => .nil
  | z :: r => .cons (.str _) (strs_rep r)
theorem de_sortSet (hc : X.calm = true) (hu : X.A.units + 100 < cLine) (hg : Gl X "sorted") (hm : X.mg "sorted" = none) (hg2 : Gl X "set") (hm2 : X.mg "set" = none) (ha : DP X e A)
    (he : starEach [e] X.env = (false, eval e X.env) :: starEach [] X.env := by rfl)
    (he2 : starEach [Expr.Call (.Name "set" p2) [e] [] q2] X.env = (false, eval (.Call (.Name "set" p2) [e] [] q2) X.env) :: starEach [] X.env := by rfl) :
    DE X (.Call (.Name "sorted" p) [.Call (.Name "set" p2) [e] [] q2] [] pos) (fPrim pSortSet [A]) := fun Γ => peM (SE.pe_sortSet hc hu hg hm hg2 hm2 (pa_cons (ha Γ) pa_nil he) he he2) fun σ H Q h => by
  have h1 := prim_one h
  obtain ⟨τ, ok, h1⟩ := h1
  refine ⟨τ, ok, ?_⟩
  cases e1 : fArg A τ with
  | bad => rw [e1] at h1; exact h1
  | ex e' τ' => rw [e1] at h1; exact h1
  | ok pk τ1 =>
    rw [e1] at h1
    intro v H1 s1 ok1 k1
    obtain ⟨O, ds, r, ra, hp, q⟩ := h1 v H1 s1 ok1 k1
    unfold pSortSet at hp
    split at hp
    · rename_i ds
      split at hp
      · rename_i zs hs
        split at hp
        · rename_i hz
          cases hp
          obtain ⟨x', e, r1⟩ := ra1 ra
          cases e
          obtain ⟨a, xs, rfl, h1, t1⟩ := rep_tup r1
          have ed := strsOf_eq hs
          rw [ed] at t1
          have ex := rep_strs t1
          subst ex
          exact ⟨a, zs, rfl, h1, hz, fun p hp => q _ _ (.new_lst hp (strs_rep _))⟩
        · cases hp
      · cases hp
    · cases hp
end
end Wt
set_option autoImplicit false
set_option Elab.async false
set_option linter.all false
set_option maxRecDepth 100000
set_option maxHeartbeats 2000000
/-! Wt.Tab: a word in a table of the module. -/
namespace Wt
open PySem PySem.Spec PyProof.Rows L2
/-- the table at d has the keys ks and no other one -/
def TabIn (K : PySem.W.Frag) (w : World) (d : Addr) (ks : List Str) : Prop := ∃ es n, KDict K w d es n ∧ ∀ z, ∃ r, PySem.W.nsIn K d z = some r ∧ r.isSome = ks.contains z
theorem keys_find {P : Params} : ∀ {l : List DictEntry} {ks : List Str}, l.map He.keyOf = He.keysIn P ks → ∀ z, (l.find? (·.key.isStr z)).isSome = ks.contains z ∧ l.any (·.refKey) = false
  | [], [], _, z => ⟨rfl, rfl⟩
  | [], k :: ks, h, z => by cases h
  | e :: r, [], h, z => by cases h
  | e :: r, k :: ks, h, z => by
    have h1 : He.keyOf e :: r.map He.keyOf = some (k, PyData.keyHash P k) :: He.keysIn P ks := h
    injection h1 with h2 h3
    obtain ⟨i1, i2⟩ := keys_find h3 z
    unfold He.keyOf at h2
    split at h2
    · rename_i x t q
      injection h2 with h2
      injection h2 with h4 h5
      subst h4
      have e1 : e.key.isStr z = (x == z) := by rw [q] <;> rfl
      have e2 : e.refKey = false := by unfold DictEntry.refKey; rw [q] <;> rfl
      constructor
      · rw [List.find?_cons, e1, List.contains_cons]
        by_cases hz : x = z
        · subst hz
          simp
        · have h6 : (x == z) = false := by simpa using hz
          have h7 : (z == x) = false := by simpa using fun q : z = x => hz q.symm
          rw [h6, h7, Bool.false_or]
          exact i1
      · rw [List.any_cons, e2, i2] <;> rfl
    · cases h2
theorem tabIn_of {K : PySem.W.Frag} {w : World} {a : Addr} {ks : List Str} (h : He.dicW K a = some (He.keysIn w.params ks)) : TabIn K w a ks := by
  obtain ⟨es, n, kd⟩ := He.dicW_ok h
  refine ⟨es, n, kd, fun z => ?_⟩
  unfold He.dicW at h
  rw [kd.at_] at h
  dsimp only at h
  split at h
  · injection h with h
    obtain ⟨i1, i2⟩ := keys_find h z
    unfold PySem.W.nsIn
    rw [kd.at_]
    dsimp only
    cases q : es.toList.find? (·.key.isStr z) with
    | some e => rw [q] at i1; exact ⟨_, rfl, i1⟩
    | none => rw [q] at i1; rw [i2]; exact ⟨none, rfl, i1⟩
  · cases h
theorem tabIn {fa : List He.Fa} {fn : List He.DefD} {ts : List He.Tab} {w : World} {K : PySem.W.Frag} (c : He.SaysT fa fn ts w K) (i : Nat) {t : He.Tab} (h : ts[i]? = some t) : TabIn K w (t.1 K) t.2 := by
  have e : ts.map (fun t => He.dicW K (t.1 K)) = ts.map fun t => some (He.keysIn w.params t.2) := congrArg (fun z : He.AlT => z.2) c
  have e2 := congrArg (fun l => l[i]?) e
  simp only [List.getElem?_map, h, Option.map_some] at e2
  exact tabIn_of (Option.some.inj e2)
section
variable {X : Cx} {e : Expr} {A : Arg} {x : Str} {p pos : Pos} {d : Addr} {ks : List Str}
theorem tab_read {Γ : Fm} {σ : L2.St} {H : Hp} {Q : VK} {ng : Bool} (T : ∀ z, ∃ r, PySem.W.nsIn X.K d z = some r ∧ r.isSome = ks.contains z) (h : rd X.K X.mg Γ (fPrim (if ng = true then pNotInTab ks else pInTab ks) [A]) σ H Q) :
    tOp (fun x y H Q => ∃ (z : Str) (r : Option Value), x = .str z ∧ y = .ref d ∧ PySem.W.nsIn X.K d z = some r ∧ Q (.bl (if ng = true then !r.isSome else r.isSome)) H) (rdP X.K X.mg Γ A) (tC (.ref d)) σ H Q := by
  have h1 := prim_one h
  obtain ⟨τ, ok, h1⟩ := h1
  refine ⟨τ, ok, ?_⟩
  cases e1 : fArg A τ with
  | bad => rw [e1] at h1; exact h1
  | ex e' τ' => rw [e1] at h1; exact h1
  | ok pk τ1 =>
    rw [e1] at h1
    intro v H1 s1 ok1 k1
    obtain ⟨O, ds, r, ra, hp, q⟩ := h1 v H1 s1 ok1 k1
    cases ng with
    | true =>
      simp only [if_true] at hp ⊢
      unfold pNotInTab at hp
      split at hp
      · cases hp
        obtain ⟨x', e, r1⟩ := ra1 ra
        cases e
        cases rep_str r1
        obtain ⟨r, e2, e3⟩ := T _
        exact ⟨_, r, rfl, rfl, e2, by rw [e3]; exact q _ _ (.same (.bl _))⟩
      · cases hp
    | false =>
      simp only [Bool.false_eq_true, if_false] at hp ⊢
      unfold pInTab at hp
      split at hp
      · cases hp
        obtain ⟨x', e, r1⟩ := ra1 ra
        cases e
        cases rep_str r1
        obtain ⟨r, e2, e3⟩ := T _
        exact ⟨_, r, rfl, rfl, e2, by rw [e3]; exact q _ _ (.same (.bl _))⟩
      · cases hp
theorem de_inTab (hg : Gl X x) (hm : X.mg x = some (.ref d)) (T : TabIn X.K X.w d ks) (he : DP X e A) (hb : behindInMarks .In (.Name x p) = false := by rfl) (hd : (x == ("__debug__" : Str)) = false := by decide) :
    DE X (.Compare e [.In] [.Name x p] pos) (fPrim (pInTab ks) [A]) := fun Γ => by
  obtain ⟨es, n, D, T⟩ := T
  exact peM (pe_cmpR (op_in_kd D) (he Γ) (pe_glob hg hm (v := .ref d) rfl hd) hb) fun σ H Q h => tab_read (ng := false) T h
theorem de_notInTab (hg : Gl X x) (hm : X.mg x = some (.ref d)) (T : TabIn X.K X.w d ks) (he : DP X e A) (hb : behindInMarks .NotIn (.Name x p) = false := by rfl) (hd : (x == ("__debug__" : Str)) = false := by decide) :
    DE X (.Compare e [.NotIn] [.Name x p] pos) (fPrim (pNotInTab ks) [A]) := fun Γ => by
  obtain ⟨es, n, D, T⟩ := T
  exact peM (pe_cmpR (op_notIn_kd D) (he Γ) (pe_glob hg hm (v := .ref d) rfl hd) hb) fun σ H Q h => tab_read (ng := true) T h
theorem dt_inTab (hg : Gl X x) (hm : X.mg x = some (.ref d)) (T : TabIn X.K X.w d ks) (he : DP X e A) (hb : behindInMarks .In (.Name x p) = false := by rfl) (hd : (x == ("__debug__" : Str)) = false := by decide) :
    DT X (.Compare e [.In] [.Name x p] pos) (tBl (fPrim (pInTab ks) [A])) := fun Γ => by
  obtain ⟨es, n, D, T⟩ := T
  exact ptM (pt_cmpR (op_in_kd D) (he Γ) (pe_glob hg hm (v := .ref d) rfl hd) hb) fun σ H Q h => tab_read (ng := false) T (bl_read h)
theorem dt_notInTab (hg : Gl X x) (hm : X.mg x = some (.ref d)) (T : TabIn X.K X.w d ks) (he : DP X e A) (hb : behindInMarks .NotIn (.Name x p) = false := by rfl) (hd : (x == ("__debug__" : Str)) = false := by decide) :
    DT X (.Compare e [.NotIn] [.Name x p] pos) (tBl (fPrim (pNotInTab ks) [A])) := fun Γ => by
  obtain ⟨es, n, D, T⟩ := T
  exact ptM (pt_cmpR (op_notIn_kd D) (he Γ) (pe_glob hg hm (v := .ref d) rfl hd) hb) fun σ H Q h => tab_read (ng := true) T (bl_read h)
end
end Wt
set_option autoImplicit false
set_option Elab.async false
set_option linter.all false
set_option maxRecDepth 100000
/-! Wt.Math2: shorter rules. -/
namespace Wt
open PySem L2
theorem lenLe {n : Nat} (h : n ≤ 1000) : n ≤ sizeLine := by have := sizeLine_eq; omega
theorem lenLt {n : Nat} (h : n ≤ 1000) : n < sizeLine := by have := sizeLine_eq; omega
section
variable {σ : Stt} {P : RV → Stt → Prop} {F G : Ex} {i j a b c : Nat} {x y z d e : D} {p : List D → Option RV} {r : RV}
/-- p(slot) -/
theorem w_p1 (e1 : (σ[i]?).bind Sl.d? = some d) (h : p [d] = some r) (k : P r σ) : W (fPrim p [.s i] σ) P :=
  w_prim (w_s e1 (w_nil ⟨[d], r, by simp only [resAll, Pk.res, e1], h, k⟩))
/-- p(slot, constant) -/
theorem w_p1c (e1 : (σ[i]?).bind Sl.d? = some d) (h : p [d, e] = some r) (k : P r σ) : W (fPrim p [.s i, .v (fC e)] σ) P :=
  w_prim (w_s e1 (w_v (w_c (w_nil ⟨[d, e], r, by simp only [resAll, Pk.res, e1], h, k⟩))))
/-- p(slot, slot) -/
theorem w_p2 (e1 : (σ[i]?).bind Sl.d? = some d) (e2 : (σ[j]?).bind Sl.d? = some e) (h : p [d, e] = some r) (k : P r σ) : W (fPrim p [.s i, .s j] σ) P :=
  w_prim (w_s e1 (w_s e2 (w_nil ⟨[d, e], r, by simp only [resAll, Pk.res, e1, e2], h, k⟩)))
/-- p(F) -/
theorem w_pv (h : W (F σ) fun r s => ∃ r', p [r.d] = some r' ∧ P r' s) : W (fPrim p [.v F] σ) P :=
  w_prim (w_v (h.mono fun r s ⟨r', h1, h2⟩ => w_nil ⟨[r.d], r', rfl, h1, h2⟩))
/-- p(F, constant) -/
theorem w_pvc (h : W (F σ) fun r s => ∃ r', p [r.d, e] = some r' ∧ P r' s) : W (fPrim p [.v F, .v (fC e)] σ) P :=
  w_prim (w_v (h.mono fun r s ⟨r', h1, h2⟩ => w_v (w_c (w_nil ⟨[r.d, e], r', rfl, h1, h2⟩))))
/-- p(F, G) -/
theorem w_pvv (h : W (F σ) fun r s => W (G s) fun q t => ∃ r', p [r.d, q.d] = some r' ∧ P r' t) : W (fPrim p [.v F, .v G] σ) P :=
  w_prim (w_v (h.mono fun r s h => w_v (h.mono fun q t ⟨r', h1, h2⟩ => w_nil ⟨[r.d, q.d], r', rfl, h1, h2⟩)))
/-- p(F, slot) -/
theorem w_pvs (h : W (F σ) fun r s => ∃ d r', (s[i]?).bind Sl.d? = some d ∧ p [r.d, d] = some r' ∧ P r' s) : W (fPrim p [.v F, .s i] σ) P :=
  w_prim (w_v (h.mono fun r s ⟨d, r', e1, h1, h2⟩ => w_s e1 (w_nil ⟨[r.d, d], r', by simp only [resAll, Pk.res, e1], h1, h2⟩)))
/-- p(slot, F) -/
theorem w_psv (e1 : (σ[i]?).bind Sl.d? = some d) (h : W (F σ) fun r s => ∃ d' r', (s[i]?).bind Sl.d? = some d' ∧ p [d', r.d] = some r' ∧ P r' s) : W (fPrim p [.s i, .v F] σ) P :=
  w_prim (w_s e1 (w_v (h.mono fun r s ⟨d', r', e2, h1, h2⟩ => w_nil ⟨[d', r.d], r', by simp only [resAll, Pk.res, e2], h1, h2⟩)))
variable {g : List D → Out} {v : D} {fr : Bool}
/-- a pure def of values -/
theorem w_cF (h : W (F σ) fun r s => ∃ v fr, g [r.d] = .ok v fr [] ∧ P ⟨v, fr⟩ s) : W (fCall g [.v F] σ) P :=
  w_call (w_v (h.mono fun r s ⟨v, fr, h1, h2⟩ => w_nil ⟨rfl, [r.d], rfl, by rw [h1]; exact .mk ⟨s, rfl, h2⟩⟩))
theorem w_cFF (h : W (F σ) fun r s => W (G s) fun q t => ∃ v fr, g [r.d, q.d] = .ok v fr [] ∧ P ⟨v, fr⟩ t) : W (fCall g [.v F, .v G] σ) P :=
  w_call (w_v (h.mono fun r s h => w_v (h.mono fun q t ⟨v, fr, h1, h2⟩ => w_nil ⟨rfl, [r.d, q.d], rfl, by rw [h1]; exact .mk ⟨t, rfl, h2⟩⟩)))
theorem w_cFFF {I : Ex} (h : W (F σ) fun r s => W (G s) fun q t => W (I t) fun o u => ∃ v fr, g [r.d, q.d, o.d] = .ok v fr [] ∧ P ⟨v, fr⟩ u) : W (fCall g [.v F, .v G, .v I] σ) P :=
  w_call (w_v (h.mono fun r s h => w_v (h.mono fun q t h => w_v (h.mono fun o u ⟨v, fr, h1, h2⟩ => w_nil ⟨rfl, [r.d, q.d, o.d], rfl, by rw [h1]; exact .mk ⟨u, rfl, h2⟩⟩))))
theorem w_c1 (e1 : σ[a]? = some (.fz x)) (h : g [x] = .ok v fr []) (k : P ⟨v, fr⟩ σ) : W (fCall g [.v (fVar a)] σ) P := w_cF (w_var e1 ⟨v, fr, h, k⟩)
theorem w_c2 (e1 : σ[a]? = some (.fz x)) (e2 : σ[b]? = some (.fz y)) (h : g [x, y] = .ok v fr []) (k : P ⟨v, fr⟩ σ) : W (fCall g [.v (fVar a), .v (fVar b)] σ) P := w_cFF (w_var e1 (w_var e2 ⟨v, fr, h, k⟩))
theorem w_c3 (e1 : σ[a]? = some (.fz x)) (e2 : σ[b]? = some (.fz y)) (e3 : σ[c]? = some (.fz z)) (h : g [x, y, z] = .ok v fr []) (k : P ⟨v, fr⟩ σ) : W (fCall g [.v (fVar a), .v (fVar b), .v (fVar c)] σ) P := w_cFFF (w_var e1 (w_var e2 (w_var e3 ⟨v, fr, h, k⟩)))
end
section
variable {σ : Stt} {P : Bool → Stt → Prop} {i : Nat} {d e : D} {p : List D → Option RV} {t : Bool}
/-- tests by a built-in -/
theorem t_p1 (e1 : (σ[i]?).bind Sl.d? = some d) (h : p [d] = some ⟨.bl t, false⟩) (k : P t σ) : W (tVal (fPrim p [.s i]) σ) P := t_val (w_p1 e1 h ⟨t, rfl, k⟩)
theorem t_p1c (e1 : (σ[i]?).bind Sl.d? = some d) (h : p [d, e] = some ⟨.bl t, false⟩) (k : P t σ) : W (tBl (fPrim p [.s i, .v (fC e)]) σ) P := t_bl (w_p1c e1 h ⟨t, rfl, k⟩)
end
section
variable {σ : Stt} {P : RV → Stt → Prop} {i : Nat} {Fs : List Ex} {m : List D → List D → Option (List D × D)} {xs0 : List D}
theorem w_mut (e : (σ[i]?).bind Sl.own? = some (.lst xs0)) (h : W (dsOf Fs σ) fun ds s => ∃ xs ys d, (s[i]?).bind Sl.own? = some (.lst xs) ∧ m xs ds = some (ys, d) ∧ P ⟨d, false⟩ (s.modify i (Sl.put (.lst ys)))) : W (fMutX i m Fs σ) P := by
  unfold fMutX
  rw [e]
  refine W.bind (h.mono fun ds s ⟨xs, ys, d, e1, e2, k⟩ => ?_)
  rw [e1]
  simp only [e2]
  exact .mk k
end
/-! ### conditions merged -/
section
variable {α : Type} {σ : Stt} {a b : Te} {ta tb : Bool}
/-- tests that change nothing -/
theorem t_orP {P : Bool → Stt → Prop} (h1 : W (a σ) fun t s => t = ta ∧ s = σ) (h2 : ta = false → W (b σ) fun t s => t = tb ∧ s = σ) (k : P (ta || tb) σ) : W (tOr a b σ) P := by
  refine t_or (h1.mono ?_)
  rintro t _ ⟨e, rfl⟩
  rw [e]
  cases ta with
  | true => exact k
  | false =>
    rw [if_neg (by decide)]
    refine (h2 rfl).mono ?_
    rintro t _ ⟨e, rfl⟩
    rw [e]
    exact k
theorem t_andP {P : Bool → Stt → Prop} (h1 : W (a σ) fun t s => t = ta ∧ s = σ) (h2 : ta = true → W (b σ) fun t s => t = tb ∧ s = σ) (k : P (ta && tb) σ) : W (tAnd a b σ) P := by
  refine t_and (h1.mono ?_)
  rintro t _ ⟨e, rfl⟩
  rw [e]
  cases ta with
  | false => exact k
  | true =>
    rw [if_pos rfl]
    refine (h2 rfl).mono ?_
    rintro t _ ⟨e, rfl⟩
    rw [e]
    exact k
theorem w_andP {F G : Ex} {P : RV → Stt → Prop} (h1 : W (F σ) fun r s => r.d = .bl ta ∧ s = σ) (h2 : ta = true → W (G σ) fun r s => r = ⟨.bl tb, false⟩ ∧ s = σ) (k : P ⟨.bl (ta && tb), false⟩ σ) : W (fAnd F G σ) P := by
  refine w_and (h1.mono ?_)
  rintro r _ ⟨e, rfl⟩
  refine ⟨ta, e, ?_⟩
  cases ta with
  | false => exact k
  | true =>
    rw [if_pos rfl]
    refine (h2 rfl).mono ?_
    rintro t _ ⟨e, rfl⟩
    rw [e]
    exact k
theorem w_chainP {F G I : Ex} {p q : List D → Option RV} {P : RV → Stt → Prop} {x y z : D} (h1 : W (F σ) fun r s => r.d = x ∧ s = σ) (h2 : W (G σ) fun r s => r.d = y ∧ s = σ) (h3 : W (I σ) fun r s => r.d = z ∧ s = σ) (e1 : p [x, y] = some ⟨.bl ta, false⟩) (e2 : q [y, z] = some ⟨.bl tb, false⟩) (k : P ⟨.bl (ta && tb), false⟩ σ) : W (fChain p q F G I σ) P := by
  refine w_chain (h1.mono ?_)
  rintro r1 _ ⟨rfl, rfl⟩
  refine h2.mono ?_
  rintro r2 _ ⟨rfl, rfl⟩
  refine ⟨ta, e1, ?_⟩
  cases ta with
  | false => exact k
  | true =>
    rw [if_pos rfl]
    refine h3.mono ?_
    rintro r3 _ ⟨rfl, rfl⟩
    exact ⟨_, e2, k⟩
end
end Wt
set_option autoImplicit false
set_option Elab.async false
set_option linter.all false
set_option maxRecDepth 100000
/-! The defs of the text of law law_k26_claims_or_not: their combinators, their derivations (printed by gen.py). -/
namespace L26
open PySem L2 Wt PyProof.Rows PySem.Spec
def topS (i : Nat) : Stmt := PySem.Challenge.pw_worktwin_k26_claims_or_not.main.body.getD i (.Pass ⟨0, 0, 0, 0⟩)
/-- the built-ins that the text uses are the built-ins -/
structure Zs (mg : Str → Option Value) : Prop where
  z_abs : mg "abs" = none
  z_all : mg "all" = none
  z_bool : mg "bool" = none
  z_divmod : mg "divmod" = none
  z_enumerate : mg "enumerate" = none
  z_int : mg "int" = none
  z_isinstance : mg "isinstance" = none
  z_len : mg "len" = none
  z_list : mg "list" = none
  z_min : mg "min" = none
  z_range : mg "range" = none
  z_repr : mg "repr" = none
  z_set : mg "set" = none
  z_sorted : mg "sorted" = none
  z_str : mg "str" = none
  z_tuple : mg "tuple" = none
  z_zip : mg "zip" = none
  c_MOST_SUM : ∃ t, mg "MOST_SUM" = some (.int 40 t)
def T_CLAIM_FORMS : List (Str × Str) := [("sum", "is_sum"), ("mode", "is_mode"), ("not", "is_not"), ("all", "are_claims"), ("any", "are_claims")]
def F_c_is_within : Sm :=
  sSeq (sRet (fAnd (fPrim (pIsi ["int"]) [.s 0]) (fAnd (fNot (tBl (fPrim (pIsi ["bool"]) [.s 0]))) (fChain pLe pLe (fVar 1) (fVar 0) (fVar 2))))) sNil
def F_c_boxes_of : Sm :=
  sSeq (sRet (fLc (.ex (fPrim pIx [.s 0, .v (fC (.int 1))])) [1] (.nm 1) (fun σ => .ok true σ) (fPrim pIx [.s 1, .v (fC (.int 0))]))) sNil
def F_c_parts_of : Sm :=
  sSeq (sRet (fLc (.ex (fPrim pIx [.s 0, .v (fC (.int 2))])) [1] (.nm 1) (fun σ => .ok true σ) (fPrim pIx [.s 1, .v (fC (.int 0))]))) sNil
def F_c_part_place (g_c_parts_of : List D → Out) : Sm :=
  sSeq (sRet (fMeth isLst pIndex (.v (fCall g_c_parts_of [.v (fVar 0)])) [.s 1])) sNil
def F_c_modes_of (g_c_part_place : List D → Out) : Sm :=
  sSeq (sRet (fPrim pIx [.v (fPrim pIx [.v (fPrim pIx [.s 0, .v (fC (.int 2))]), .v (fCall g_c_part_place [.v (fVar 0), .v (fVar 1)])]), .v (fC (.int 1))])) sNil
def F_c_are_some_of : Sm :=
  sSeq (sIf (tOr (tNot (tVal (fPrim (pIsi ["tuple"]) [.s 0]))) (tBl (fPrim pEq [.v (fPrim pLen [.s 0]), .v (fC (.int 0))]))) (sSeq (sRet (fC (.bl false))) sNil) (sNil))
    (sSeq (sIf (tNot (tVal (fPrim pAll [.v (fLc (.sl 0) [2] (.nm 2) (fun σ => .ok true σ) (fAnd (fPrim (pIsi ["str"]) [.s 2]) (fPrim pIn [.s 2, .s 1])))]))) (sSeq (sRet (fC (.bl false))) sNil) (sNil))
    (sSeq (sRet (fPrim pAll [.v (fLc (.zip (fVar 0) (fSl (.s 0) (.at (.v (fC (.int 1)))) (.no))) [2, 3] (.tp [.nm 2, .nm 3]) (fun σ => .ok true σ) (fPrim pLt [.s 2, .s 3]))])) sNil))
def F_c_is_sum (g_c_are_some_of g_c_is_within g_c_boxes_of : List D → Out) : Sm :=
  sSeq (sIf (tOr (tBl (fPrim pNe [.v (fPrim pLen [.s 1]), .v (fC (.int 3))])) (tNot (tVal (fCall g_c_are_some_of [.v (fPrim pIx [.s 1, .v (fC (.int 0))]), .v (fCall g_c_boxes_of [.v (fVar 0)])])))) (sSeq (sRet (fC (.bl false))) sNil) (sNil))
    (sSeq (sRet (fPrim pAll [.v (fLc (.ex (fSl (.s 1) (.at (.v (fC (.int 1)))) (.no))) [2] (.nm 2) (fun σ => .ok true σ) (fCall g_c_is_within [.v (fVar 2), .v (fC (.int 0)), .v (fC (.int 40))]))])) sNil)
def F_c_is_mode (g_c_are_some_of g_c_modes_of g_c_parts_of : List D → Out) : Sm :=
  sSeq (sIf (tOr (tBl (fPrim pNe [.v (fPrim pLen [.s 1]), .v (fC (.int 2))])) (tOr (tNot (tVal (fPrim (pIsi ["str"]) [.v (fPrim pIx [.s 1, .v (fC (.int 0))])]))) (tBl (fPrim pNotIn [.v (fPrim pIx [.s 1, .v (fC (.int 0))]), .v (fCall g_c_parts_of [.v (fVar 0)])])))) (sSeq (sRet (fC (.bl false))) sNil) (sNil))
    (sSeq (sRet (fCall g_c_are_some_of [.v (fPrim pIx [.s 1, .v (fC (.int 1))]), .v (fCall g_c_modes_of [.v (fVar 0), .v (fPrim pIx [.s 1, .v (fC (.int 0))])])])) sNil)
def F_c_is_not (g_c_is_claim : List D → Out) : Sm :=
  sSeq (sRet (fAnd (fPrim pEq [.v (fPrim pLen [.s 1]), .v (fC (.int 1))]) (fCall g_c_is_claim [.v (fVar 0), .v (fPrim pIx [.s 1, .v (fC (.int 0))])]))) sNil
def F_c_are_claims (g_c_is_claim : List D → Out) : Sm :=
  sSeq (sIf (tOr (tBl (fPrim pNe [.v (fPrim pLen [.s 1]), .v (fC (.int 1))])) (tNot (tVal (fPrim (pIsi ["tuple"]) [.v (fPrim pIx [.s 1, .v (fC (.int 0))])])))) (sSeq (sRet (fC (.bl false))) sNil) (sNil))
    (sSeq (sRet (fPrim pAll [.v (fLc (.ex (fPrim pIx [.s 1, .v (fC (.int 0))])) [2] (.nm 2) (fun σ => .ok true σ) (fCall g_c_is_claim [.v (fVar 0), .v (fVar 2)]))])) sNil)
def F_c_is_claim (gs : Str → Option (List D → Out)) : Sm :=
  sSeq (sIf (tOr (tNot (tVal (fPrim (pIsi ["tuple"]) [.s 1]))) (tOr (tBl (fPrim pEq [.v (fPrim pLen [.s 1]), .v (fC (.int 0))])) (tNot (tVal (fPrim (pIsi ["str"]) [.v (fPrim pIx [.s 1, .v (fC (.int 0))])]))))) (sSeq (sRet (fC (.bl false))) sNil) (sNil))
    (sSeq (sStar 3 4 (fVar 1))
    (sSeq (sIf (tBl (fPrim (pNotInTab ["sum", "mode", "not", "all", "any"]) [.s 3])) (sSeq (sRet (fC (.bl false))) sNil) (sNil))
    (sSeq (sSet 2 (fPrim (pLook T_CLAIM_FORMS) [.s 3]))
    (sSeq (sRet (fCallV 2 gs [.v (fVar 0), .v (fVar 4)])) sNil))))
def F_l_box : Sm :=
  sSeq (sSet 2 (fIf (tBl (fPrim pLt [.s 1, .v (fPrim pLen [.s 0])])) (fPrim pIx [.s 0, .s 1]) (fC (.int 0))))
    (sSeq (sRet (fLst [fPrim pMul [.v (fPrim pAbs [.s 2]), .v (fPrim pInt [.v (fPrim pGe [.v (fPrim pAbs [.s 2]), .v (fPrim pPow [.v (fC (.int 10)), .v (fC (.int 18))])])])], fPrim pMod [.v (fPrim pMul [.v (fPrim pAdd [.v (fPrim pAdd [.v (fPrim pMod [.s 2, .v (fC (.int 2147483629))]), .v (fPrim pMul [.v (fC (.int 15485863)), .s 1])]), .v (fC (.int 43))]), .v (fC (.int 48271))]), .v (fC (.int 2147483647))], fC (.int 0)])) sNil)
def F_l_take (g_l_take : List D → Out) : Sm :=
  sSeq (sIf (tBl (fPrim pGt [.v (fPrim pIx [.s 0, .v (fC (.int 0))]), .v (fC (.int 0))])) (sSeq (sUnpAt 0 (fC (.int 0)) 5 (fPrim pDivmod [.v (fPrim pIx [.s 0, .v (fC (.int 0))]), .s 1]))
    (sSeq (sRetV 5) sNil)) (sNil))
    (sSeq (sIf (tBl (fPrim pGt [.s 1, .v (fPrim pPow [.v (fC (.int 10)), .v (fC (.int 7))])])) (sSeq (sRet (fPrim pMod [.v (fPrim pAdd [.v (fCall g_l_take [.s 0, .v (fPrim pPow [.v (fC (.int 10)), .v (fC (.int 7))])]), .v (fPrim pMul [.v (fPrim pPow [.v (fC (.int 10)), .v (fC (.int 7))]), .v (fCall g_l_take [.s 0, .v (fPrim pAdd [.v (fPrim pDiv [.v (fPrim pSub [.s 1, .v (fC (.int 1))]), .v (fPrim pPow [.v (fC (.int 10)), .v (fC (.int 7))])]), .v (fC (.int 1))])])])]), .s 1])) sNil) (sNil))
    (sSeq (sPutX 0 (fC (.int 2)) (fPrim pAdd [.v (fPrim pIx [.s 0, .v (fC (.int 2))]), .v (fC (.int 1))]))
    (sSeq (sSet 2 (fPrim pAdd [.v (fC (.int 69621)), .v (fPrim pMul [.v (fPrim pIx [.s 0, .v (fC (.int 2))]), .v (fPrim pIx [.s 0, .v (fC (.int 2))])])]))
    (sSeq (sSet 3 (fPrim pMod [.v (fPrim pMul [.v (fPrim pAdd [.v (fPrim pIx [.s 0, .v (fC (.int 1))]), .v (fPrim pMul [.v (fC (.int 39373)), .v (fPrim pIx [.s 0, .v (fC (.int 2))])])]), .s 2]), .v (fC (.int 2147483587))]))
    (sSeq (sSet 4 (fPrim pMod [.v (fPrim pAdd [.v (fPrim pMul [.s 3, .v (fPrim pAdd [.v (fPrim pMod [.s 3, .v (fC (.int 30011))]), .v (fC (.int 5))])]), .v (fPrim pIx [.s 0, .v (fC (.int 2))])]), .v (fC (.int 2147483563))]))
    (sSeq (sRet (fPrim pMod [.v (fPrim pDiv [.v (fPrim pMod [.v (fPrim pMul [.s 4, .v (fPrim pAdd [.v (fPrim pMod [.s 4, .v (fC (.int 1013))]), .v (fC (.int 3))])]), .v (fC (.int 998244353))]), .v (fC (.int 16))]), .s 1])) sNil))))))
def F_l_folded : Sm :=
  sSeq (sSet 2 (fPrim pList [.v (fSl (.s 0) (.no) (.at (.s 1)))]))
    (sSeq (sFor (.enum (fSl (.s 0) (.at (.s 1)) (.at (.v (fC (.int 63)))))) (.tp [.nm 3, .nm 4]) (sSeq (sPutX 2 (fPrim pMod [.s 3, .s 1]) (fPrim pAdd [.v (fPrim pIx [.s 2, .v (fPrim pMod [.s 3, .s 1])]), .v (fPrim pMul [.s 4, .v (fPrim pAdd [.s 3, .v (fC (.int 2))])])])) sNil))
    (sSeq (sRet (fIf (tBl (fPrim pNe [.s 2, .v (fLst [])])) (fVar 2) (fLst [fC (.int 0)]))) sNil))
def F_l_same (g_l_same : List D → Out) : Sm :=
  sSeq (sIf (tVal (fPrim (pIsi ["list", "tuple"]) [.s 1])) (sSeq (sIf (tOr (tBl (fPrim pNe [.v (fPrim (pIsi ["list"]) [.s 0]), .v (fPrim (pIsi ["list"]) [.s 1])])) (tBl (fPrim pNe [.v (fPrim (pIsi ["tuple"]) [.s 0]), .v (fPrim (pIsi ["tuple"]) [.s 1])]))) (sSeq (sRet (fC (.bl false))) sNil) (sNil))
    (sSeq (sRet (fAnd (fPrim pEq [.v (fPrim pLen [.s 0]), .v (fPrim pLen [.s 1])]) (fPrim pAll [.v (fLc (.zip (fVar 0) (fVar 1)) [2, 3] (.tp [.nm 2, .nm 3]) (fun σ => .ok true σ) (fCall g_l_same [.v (fVar 2), .v (fVar 3)]))]))) sNil)) (sNil))
    (sSeq (sIf (tOr (tBl (fPrim pIsN [.s 1, .v (fC .non)])) (tVal (fPrim (pIsi ["str"]) [.s 1]))) (sSeq (sRet (fAnd (fPrim pEq [.s 0, .s 1]) (fPrim pEq [.v (fPrim (pIsi ["str"]) [.s 0]), .v (fPrim (pIsi ["str"]) [.s 1])]))) sNil) (sNil))
    (sSeq (sRet (fAnd (fPrim (pIsi ["int"]) [.s 0]) (fAnd (fPrim pEq [.v (fPrim (pIsi ["bool"]) [.s 0]), .v (fPrim (pIsi ["bool"]) [.s 1])]) (fPrim pEq [.s 0, .s 1])))) sNil))
def F_l_of (g_l_take : List D → Out) : Sm :=
  sSeq (sRet (fPrim pIx [.s 1, .v (fCall g_l_take [.s 0, .v (fPrim pLen [.s 1])])])) sNil
def F_l_names (g_l_take : List D → Out) : Sm :=
  sSeq (sPar [4, 5, 6] [fC (.str "abcdefghijklmnopqrstuvwxyz"), fCall g_l_take [.s 0, .v (fC (.int 26))], fLst []])
    (sSeq (sSet 2 (fMeth isStr pJoin (.v (fC (.str ""))) [.v (fLc (.rng (fCall g_l_take [.s 0, .v (fC (.int 6))])) [10] (.nm 10) (fun σ => .ok true σ) (fPrim pIx [.s 4, .v (fCall g_l_take [.s 0, .v (fC (.int 26))])]))]))
    (sSeq (sSet 2 (fIf (tBl (fPrim pEq [.s 2, .v (fC (.str "wai"))])) (fC (.str "w")) (fVar 2)))
    (sSeq (sPar [7, 8] [fPrim pIx [.v (fLst [fC (.int 1), fC (.int 3), fC (.int 25)]), .v (fCall g_l_take [.s 0, .v (fC (.int 3))])], fCall g_l_take [.s 0, .v (fC (.int 2))]])
    (sSeq (sFor (.rng (fVar 1)) (.nm 3) (sSeq (sSet 9 (fPrim pIx [.s 4, .v (fPrim pMod [.v (fPrim pAdd [.s 5, .v (fPrim pMul [.s 7, .v (fIf (tBl (fPrim pEq [.s 8, .v (fC (.int 1))])) (fPrim pDiv [.s 3, .v (fC (.int 2))]) (fVar 3))])]), .v (fC (.int 26))])]))
    (sSeq (sExpr (fApp 6 (fPrim pAdd [.v (fPrim pAdd [.s 2, .s 9]), .v (fPrim pMul [.v (fC (.str "ab")), .v (fPrim pInt [.v (fAnd (fPrim pEq [.s 8, .v (fC (.int 1))]) (fPrim pEq [.v (fPrim pMod [.s 3, .v (fC (.int 2))]), .v (fC (.int 1))]))])])]))) sNil)))
    (sSeq (sRetV 6) sNil)))))
def F_l_some (g_l_take : List D → Out) : Sm :=
  sSeq (sSet 3 (fLc (.sl 1) [4] (.nm 4) (tBl (fPrim pEq [.v (fCall g_l_take [.s 0, .v (fC (.int 2))]), .v (fC (.int 0))])) (fVar 4)))
    (sSeq (sRet (fIf (tBl (fPrim pGe [.v (fPrim pLen [.s 3]), .s 2])) (fVar 3) (fSl (.s 1) (.no) (.at (.s 2))))) sNil)
def F_l_parts_by (g_l_some g_l_take : List D → Out) : Sm :=
  sSeq (sSet 3 (fLst []))
    (sSeq (sFor (.rng (fVar 2)) (.nm 4) (sSeq (sSet 5 (fSl (.s 1) (.at (.v (fPrim pAdd [.s 2, .v (fPrim pMul [.v (fC (.int 3)), .s 4])]))) (.at (.v (fPrim pAdd [.v (fPrim pAdd [.v (fPrim pAdd [.s 2, .v (fPrim pMul [.v (fC (.int 3)), .s 4])]), .v (fC (.int 2))]), .v (fCall g_l_take [.s 0, .v (fC (.int 2))])])))))
    (sSeq (sSet 6 (fPrim pTuple [.v (fPrim pSorted [.v (fCall g_l_some [.s 0, .v (fVar 5), .v (fC (.int 0))])])]))
    (sSeq (sExpr (fApp 3 (fTup [fPrim pIx [.s 1, .s 4], fPrim pTuple [.s 5], fVar 6]))) sNil))))
    (sSeq (sRet (fPrim pTuple [.v (fPrim pSorted [.s 3])])) sNil))
def F_l_pipes_by (g_l_take g_l_of : List D → Out) : Sm :=
  sSeq (sPar [5, 6] [fPrim pAdd [.v (fLc (.sl 1) [11] (.nm 11) (fun σ => .ok true σ) (fPrim pIx [.s 11, .v (fC (.int 0))])), .v (fLst [fC (.str "")])], fLst []])
    (sSeq (sFor (.rng (fVar 3)) (.nm 4) (sSeq (sPar [9, 10] [fCall g_l_take [.s 0, .v (fPrim pLen [.s 5])], fCall g_l_of [.s 0, .v (fVar 2)]])
    (sSeq (sSet 7 (fPrim pIx [.s 5, .v (fPrim pMod [.v (fPrim pAdd [.v (fPrim pAdd [.s 9, .v (fC (.int 1))]), .v (fCall g_l_take [.s 0, .v (fPrim pSub [.v (fPrim pLen [.s 5]), .v (fC (.int 1))])])]), .v (fPrim pLen [.s 5])])]))
    (sSeq (sSet 8 (fCall g_l_take [.s 0, .v (fC (.int 3))]))
    (sSeq (sExpr (fApp 6 (fTup [fPrim pIx [.s 5, .s 9], fVar 7, fPrim pIx [.s 10, .v (fC (.int 0))], fCall g_l_of [.s 0, .v (fPrim pIx [.s 10, .v (fC (.int 1))])], fVar 8, fPrim pAdd [.s 8, .v (fCall g_l_take [.s 0, .v (fC (.int 3))])]]))) sNil)))))
    (sSeq (sRet (fPrim pTuple [.s 6])) sNil))
def F_l_deeds_by (g_l_some g_l_of : List D → Out) : Sm :=
  sSeq (sSet 4 (fLst []))
    (sSeq (sFor (.rng (fVar 3)) (.nm 5) (sSeq (sSet 6 (fCall g_l_some [.s 0, .v (fPrim pList [.s 2]), .v (fC (.int 1))]))
    (sSeq (sExpr (fApp 4 (fTup [fPrim pIx [.s 1, .s 5], fPrim pTuple [.v (fLc (.sl 6) [7] (.nm 7) (fun σ => .ok true σ) (fTup [fPrim pIx [.s 7, .v (fC (.int 0))], fCall g_l_of [.s 0, .v (fPrim pIx [.s 7, .v (fC (.int 1))])]]))]]))) sNil)))
    (sSeq (sRet (fPrim pTuple [.v (fPrim pSorted [.s 4])])) sNil))
def F_l_sensors_by (g_l_take g_l_some g_l_of : List D → Out) : Sm :=
  sSeq (sSet 5 (fLst []))
    (sSeq (sFor (.rng (fVar 4)) (.nm 6) (sSeq (sIf (tBl (fPrim pEq [.v (fCall g_l_take [.s 0, .v (fC (.int 3))]), .v (fC (.int 0))])) (sSeq (sExpr (fApp 5 (fTup [fPrim pIx [.s 1, .s 6], fC (.str "part"), fPrim pIx [.v (fCall g_l_of [.s 0, .v (fVar 3)]), .v (fC (.int 0))]]))) sNil) (sSeq (sSet 7 (fPrim pTuple [.v (fCall g_l_some [.s 0, .v (fLc (.sl 2) [8] (.nm 8) (fun σ => .ok true σ) (fPrim pIx [.s 8, .v (fC (.int 0))])), .v (fC (.int 1))])]))
    (sSeq (sExpr (fApp 5 (fTup [fPrim pIx [.s 1, .s 6], fC (.str "sum"), fVar 7, fCall g_l_take [.s 0, .v (fC (.int 3))]]))) sNil))) sNil))
    (sSeq (sRet (fPrim pTuple [.v (fPrim pSorted [.s 5])])) sNil))
def F_l_works (g_l_parts_by g_l_pipes_by g_l_deeds_by g_l_sensors_by g_l_names g_l_take : List D → Out) : Sm :=
  sSeq (sPar [12, 6] [fCall g_l_names [.s 0, .v (fC (.int 26))], fLst []])
    (sSeq (sFor (.rng (fPrim pAdd [.v (fC (.int 1)), .v (fCall g_l_take [.s 0, .v (fVar 2)])])) (.nm 5) (sSeq (sSet 13 (fPrim pAdd [.v (fC (.int 1)), .v (fCall g_l_take [.s 0, .v (fVar 4)])]))
    (sSeq (sSet 14 (fCall g_l_take [.s 0, .v (fPrim pAdd [.s 13, .v (fC (.int 1))])]))
    (sSeq (sExpr (fApp 6 (fTup [fPrim pIx [.s 12, .s 5], fVar 13, fVar 14, fPrim pMin [.s 13, .v (fPrim pAdd [.s 14, .v (fCall g_l_take [.s 0, .v (fC (.int 3))])])]]))) sNil))))
    (sSeq (sSet 6 (fPrim pTuple [.v (fPrim pSorted [.s 6])]))
    (sSeq (sSet 7 (fPrim pIx [.v (fLst [fC (.int 3), fC (.int 0)]), .v (fPrim pInt [.v (fPrim pEq [.v (fPrim pIx [.v (fPrim pIx [.s 6, .v (fC (.int 0))]), .v (fC (.int 1))]), .v (fC (.int 2))])])]))
    (sSeq (sSet 8 (fCall g_l_parts_by [.s 0, .v (fSl (.s 12) (.at (.s 7)) (.at (.v (fPrim pAdd [.s 7, .v (fC (.int 16))])))), .v (fPrim pAdd [.v (fC (.int 1)), .v (fCall g_l_take [.s 0, .v (fVar 3)])])]))
    (sSeq (sSet 9 (fCall g_l_pipes_by [.s 0, .v (fVar 6), .v (fVar 8), .v (fCall g_l_take [.s 0, .v (fC (.int 5))])]))
    (sSeq (sSet 10 (fCall g_l_deeds_by [.s 0, .v (fSl (.v (fSl (.s 12) (.at (.v (fPrim pAdd [.v (fPrim pMul [.s 7, .v (fC (.int 6))]), .v (fPrim pDiv [.s 7, .v (fC (.int 3))])]))) (.no))) (.no) (.at (.v (fC (.int 3))))), .v (fVar 8), .v (fCall g_l_take [.s 0, .v (fC (.int 4))])]))
    (sSeq (sSet 11 (fCall g_l_sensors_by [.s 0, .v (fSl (.v (fSl (.s 12) (.at (.v (fPrim pAdd [.v (fPrim pMul [.s 7, .v (fC (.int 7))]), .v (fPrim pDiv [.s 7, .v (fC (.int 3))])]))) (.no))) (.no) (.at (.v (fC (.int 4))))), .v (fVar 6), .v (fVar 8), .v (fCall g_l_take [.s 0, .v (fC (.int 5))])]))
    (sSeq (sRet (fTup [fVar 1, fVar 6, fVar 8, fVar 9, fVar 10, fVar 11])) sNil))))))))
def F_l_claim (g_l_take g_l_of g_l_claim g_l_some : List D → Out) : Sm :=
  sSeq (sSet 3 (fIf (tBl (fPrim pGt [.s 2, .v (fC (.int 1))])) (fCall g_l_take [.s 0, .v (fC (.int 6))]) (fCall g_l_take [.s 0, .v (fC (.int 2))])))
    (sSeq (sIf (tBl (fPrim pEq [.s 3, .v (fC (.int 0))])) (sSeq (sSet 4 (fCall g_l_take [.s 0, .v (fC (.int 6))]))
    (sSeq (sRet (fTup [fC (.str "sum"), fPrim pTuple [.v (fCall g_l_some [.s 0, .v (fLc (.ex (fPrim pIx [.s 1, .v (fC (.int 1))])) [9] (.nm 9) (fun σ => .ok true σ) (fPrim pIx [.s 9, .v (fC (.int 0))])), .v (fC (.int 1))])], fVar 4, fPrim pAdd [.s 4, .v (fCall g_l_take [.s 0, .v (fC (.int 5))])]])) sNil)) (sNil))
    (sSeq (sIf (tBl (fPrim pEq [.s 3, .v (fC (.int 1))])) (sSeq (sSet 5 (fCall g_l_of [.s 0, .v (fPrim pIx [.s 1, .v (fC (.int 2))])]))
    (sSeq (sRet (fTup [fC (.str "mode"), fPrim pIx [.s 5, .v (fC (.int 0))], fPrim pTuple [.v (fPrim pSorted [.v (fCall g_l_some [.s 0, .v (fPrim pList [.v (fPrim pIx [.s 5, .v (fC (.int 1))])]), .v (fC (.int 1))])])]])) sNil)) (sNil))
    (sSeq (sIf (tBl (fPrim pEq [.s 3, .v (fC (.int 2))])) (sSeq (sRet (fTup [fC (.str "not"), fCall g_l_claim [.s 0, .v (fVar 1), .v (fPrim pSub [.s 2, .v (fC (.int 1))])]])) sNil) (sNil))
    (sSeq (sPar [6, 7] [fCall g_l_of [.s 0, .v (fLst [fC (.str "all"), fC (.str "any")])], fCall g_l_take [.s 0, .v (fC (.int 3))]])
    (sSeq (sRet (fTup [fVar 6, fPrim pTuple [.v (fLc (.rng (fVar 7)) [8] (.nm 8) (fun σ => .ok true σ) (fCall g_l_claim [.s 0, .v (fVar 1), .v (fPrim pSub [.s 2, .v (fC (.int 1))])]))]])) sNil)))))
def F_l_rises : Sm :=
  sSeq (sIf (tOr (tNot (tVal (fPrim (pIsi ["tuple"]) [.s 0]))) (tBl (fPrim pEq [.v (fPrim pLen [.s 0]), .v (fC (.int 0))]))) (sSeq (sRet (fC (.bl false))) sNil) (sNil))
    (sSeq (sIf (tNot (tVal (fPrim pAll [.v (fLc (.sl 0) [2] (.nm 2) (fun σ => .ok true σ) (fAnd (fPrim (pIsi ["str"]) [.s 2]) (fPrim pIn [.s 2, .s 1])))]))) (sSeq (sRet (fC (.bl false))) sNil) (sNil))
    (sSeq (sRet (fPrim pEq [.v (fPrim pList [.s 0]), .v (fPrim pSortSet [.s 0])])) sNil))
def F_l_is_number : Sm :=
  sSeq (sRet (fAnd (fPrim (pIsi ["int"]) [.s 0]) (fAnd (fNot (tBl (fPrim (pIsi ["bool"]) [.s 0]))) (fChain pLe pLe (fC (.int 0)) (fVar 0) (fC (.int 40)))))) sNil
def F_l_is_claim (g_l_rises g_l_is_number g_l_is_claim : List D → Out) : Sm :=
  sSeq (sIf (tOr (tNot (tVal (fPrim (pIsi ["tuple"]) [.s 1]))) (tOr (tBl (fPrim pLt [.v (fPrim pLen [.s 1]), .v (fC (.int 2))])) (tNot (tVal (fPrim (pIsi ["str"]) [.v (fPrim pIx [.s 1, .v (fC (.int 0))])]))))) (sSeq (sRet (fC (.bl false))) sNil) (sNil))
    (sSeq (sPar [2, 3] [fPrim pIx [.s 1, .v (fC (.int 0))], fPrim pLen [.s 1]])
    (sSeq (sIf (tBl (fPrim pEq [.s 2, .v (fC (.str "sum"))])) (sSeq (sSet 4 (fAnd (fPrim pEq [.s 3, .v (fC (.int 4))]) (fCall g_l_rises [.v (fPrim pIx [.s 1, .v (fC (.int 1))]), .v (fLc (.ex (fPrim pIx [.s 0, .v (fC (.int 1))])) [7] (.nm 7) (fun σ => .ok true σ) (fPrim pIx [.s 7, .v (fC (.int 0))]))])))
    (sSeq (sRet (fAnd (fVar 4) (fAnd (fCall g_l_is_number [.v (fPrim pIx [.s 1, .v (fC (.int 2))])]) (fCall g_l_is_number [.v (fPrim pIx [.s 1, .v (fC (.int 3))])])))) sNil)) (sNil))
    (sSeq (sIf (tBl (fPrim pEq [.s 2, .v (fC (.str "mode"))])) (sSeq (sSet 5 (fLc (.ex (fPrim pIx [.s 0, .v (fC (.int 2))])) [6] (.nm 6) (tBl (fPrim pEq [.v (fPrim pIx [.s 6, .v (fC (.int 0))]), .v (fPrim pIx [.s 1, .v (fC (.int 1))])])) (fPrim pIx [.s 6, .v (fC (.int 1))])))
    (sSeq (sRet (fAnd (fPrim pEq [.s 3, .v (fC (.int 3))]) (fAnd (fPrim pNe [.s 5, .v (fLst [])]) (fCall g_l_rises [.v (fPrim pIx [.s 1, .v (fC (.int 2))]), .v (fPrim pIx [.s 5, .v (fC (.int 0))])])))) sNil)) (sNil))
    (sSeq (sIf (tBl (fPrim pEq [.s 2, .v (fC (.str "not"))])) (sSeq (sRet (fAnd (fPrim pEq [.s 3, .v (fC (.int 2))]) (fCall g_l_is_claim [.v (fVar 0), .v (fPrim pIx [.s 1, .v (fC (.int 1))])]))) sNil) (sNil))
    (sSeq (sIf (tOr (tBl (fPrim pNotIn [.s 2, .v (fTup [fC (.str "all"), fC (.str "any")])])) (tOr (tBl (fPrim pNe [.s 3, .v (fC (.int 2))])) (tNot (tVal (fPrim (pIsi ["tuple"]) [.v (fPrim pIx [.s 1, .v (fC (.int 1))])]))))) (sSeq (sRet (fC (.bl false))) sNil) (sNil))
    (sSeq (sRet (fPrim pAll [.v (fLc (.ex (fPrim pIx [.s 1, .v (fC (.int 1))])) [7] (.nm 7) (fun σ => .ok true σ) (fCall g_l_is_claim [.v (fVar 0), .v (fVar 7)]))])) sNil))))))
def F_l_bent (g_l_of g_l_take g_l_bent : List D → Out) : Sm :=
  sSeq (sSet 3 (fLst [fC .non, fC (.bl true), fC (.bl false), fC (.int 0), fC (.int 40), fC (.int 41), fPrim pNeg [.v (fC (.int 1))], fC (.str ""), fC (.str "sum"), fC (.str "not"), fC (.str "any"), fTup [], fLst [], fTup [fC (.int 0)], fTup [fC (.str "a"), fC (.str "b")], fTup [fTup [fC (.str "all"), fTup []]]]))
    (sSeq (sIf (tOr (tNot (tVal (fPrim (pIsi ["tuple", "list"]) [.s 1]))) (tOr (tBl (fPrim pEq [.v (fPrim pLen [.s 1]), .v (fC (.int 0))])) (tOr (tBl (fPrim pEq [.s 2, .v (fC (.int 0))])) (tBl (fPrim pEq [.v (fCall g_l_take [.s 0, .v (fC (.int 5))]), .v (fC (.int 0))]))))) (sSeq (sRet (fCall g_l_of [.s 0, .v (fVar 3)])) sNil) (sNil))
    (sSeq (sPar [4, 5, 6] [fPrim pList [.s 1], fCall g_l_take [.s 0, .v (fPrim pLen [.s 1])], fCall g_l_take [.s 0, .v (fC (.int 7))]])
    (sSeq (sIf (tBl (fPrim pLt [.s 6, .v (fC (.int 3))])) (sSeq (sPutX 4 (fVar 5) (fCall g_l_bent [.s 0, .v (fPrim pIx [.s 4, .s 5]), .v (fPrim pSub [.s 2, .v (fC (.int 1))])])) sNil) (sSeq (sIf (tBl (fPrim pEq [.s 6, .v (fC (.int 3))])) (sSeq (sSet 4 (fPrim pAdd [.v (fSl (.s 4) (.no) (.at (.s 5))), .v (fSl (.s 4) (.at (.v (fPrim pAdd [.s 5, .v (fC (.int 1))]))) (.no))])) sNil) (sSeq (sIf (tBl (fPrim pEq [.s 6, .v (fC (.int 4))])) (sSeq (sSet 4 (fPrim pAdd [.v (fSl (.s 4) (.no) (.at (.v (fPrim pAdd [.s 5, .v (fC (.int 1))])))), .v (fSl (.s 4) (.at (.s 5)) (.no))])) sNil) (sSeq (sIf (tBl (fPrim pEq [.s 6, .v (fC (.int 5))])) (sSeq (sSet 4 (fPrim pRev [.s 4])) sNil) (sNil)) sNil)) sNil)) sNil))
    (sSeq (sRet (fIf (tBl (fPrim pEq [.s 6, .v (fC (.int 6))])) (fVar 4) (fPrim pTuple [.s 4]))) sNil))))
def F_l_right (g_l_names g_l_works g_l_claim g_l_is_claim g_c_is_claim g_l_same g_l_bent : List D → Out) : Sm :=
  sSeq (sSet 1 (fCall g_l_names [.s 0, .v (fC (.int 2))]))
    (sSeq (sPar [5, 6] [fCall g_l_works [.s 0, .v (fPrim pIx [.s 1, .v (fC (.int 0))]), .v (fC (.int 3)), .v (fC (.int 4)), .v (fC (.int 9))], fCall g_l_works [.s 0, .v (fPrim pIx [.s 1, .v (fC (.int 1))]), .v (fC (.int 2)), .v (fC (.int 2)), .v (fC (.int 4))]])
    (sSeq (sSet 2 (fLst [fC .non, fTup [], fC (.str "all"), fTup [fC (.str "all")], fTup [fC (.str "all"), fTup []], fTup [fC (.str "any"), fTup []], fLst [fC (.str "all"), fTup []], fTup [fC (.str "not"), fTup [fC (.str "any"), fTup []]], fTup [fC (.str "all"), fLst []]]))
    (sSeq (sSet 2 (fPrim pAdd [.s 2, .v (fLst [fTup [fC (.str "sum"), fTup [], fC (.int 0), fC (.int 1)], fTup [fC (.str "sum"), fTup [fPrim pIx [.v (fPrim pIx [.v (fPrim pIx [.s 5, .v (fC (.int 1))]), .v (fC (.int 0))]), .v (fC (.int 0))]], fC (.int 0), fC (.int 40)], fTup [fC (.str "sum"), fTup [fPrim pIx [.v (fPrim pIx [.v (fPrim pIx [.s 5, .v (fC (.int 1))]), .v (fC (.int 0))]), .v (fC (.int 0))]], fC (.int 0), fC (.int 41)]])]))
    (sSeq (sFor (.rng (fC (.int 6))) (.nm 3) (sSeq (sSet 7 (fCall g_l_claim [.s 0, .v (fVar 5), .v (fC (.int 4))]))
    (sSeq (sSet 2 (fPrim pAdd [.v (fPrim pAdd [.s 2, .v (fLst [fVar 7, fCall g_l_claim [.s 0, .v (fVar 6), .v (fC (.int 3))]])]), .v (fLc (.rng (fC (.int 8))) [11] (.nm 11) (fun σ => .ok true σ) (fCall g_l_bent [.s 0, .v (fVar 7), .v (fC (.int 6))]))])) sNil)))
    (sSeq (sFor (.sl 2) (.nm 4) (sSeq (sPar [9, 10] [fPrim pReprX [.s 4], fCall g_l_is_claim [.v (fVar 5), .v (fVar 4)]])
    (sSeq (sSet 8 (fLst [fCall g_c_is_claim [.v (fVar 5), .v (fVar 4)], fCall g_c_is_claim [.v (fVar 5), .v (fVar 4)]]))
    (sSeq (sIf (tOr (tNot (tVal (fCall g_l_same [.v (fVar 8), .v (fLst [fVar 10, fVar 10])]))) (tBl (fPrim pNe [.v (fPrim pReprX [.s 4]), .s 9]))) (sSeq (sRet (fC (.bl false))) sNil) (sNil))
    (sSeq (sIf (tNot (tVal (fCall g_l_same [.v (fCall g_c_is_claim [.v (fVar 6), .v (fVar 4)]), .v (fCall g_l_is_claim [.v (fVar 6), .v (fVar 4)])]))) (sSeq (sRet (fC (.bl false))) sNil) (sNil)) sNil)))))
    (sSeq (sRet (fC (.bl true))) sNil))))))
def F_c_law (g_l_folded g_l_right g_l_box : List D → Out) : Sm :=
  sSeq (sSet 1 (fCall g_l_folded [.v (fVar 0), .v (fC (.int 3))]))
    (sSeq (sRet (fPrim pAll [.v (fLc (.rng (fPrim pLen [.s 1])) [2] (.nm 2) (fun σ => .ok true σ) (fCallT g_l_right (fCall g_l_box [.v (fVar 1), .v (fVar 2)])))])) sNil)
def G_c_is_within : List D → Out := fDef [false, false, false] 0 (F_c_is_within)
def G_c_boxes_of : List D → Out := fDef [false] 1 (F_c_boxes_of)
def G_c_parts_of : List D → Out := fDef [false] 1 (F_c_parts_of)
def G_c_part_place : List D → Out := fDef [false, false] 0 (F_c_part_place G_c_parts_of)
def G_c_modes_of : List D → Out := fDef [false, false] 0 (F_c_modes_of G_c_part_place)
def G_c_are_some_of : List D → Out := fDef [false, false] 2 (F_c_are_some_of)
def G_c_is_sum : List D → Out := fDef [false, false] 1 (F_c_is_sum G_c_are_some_of G_c_is_within G_c_boxes_of)
def G_c_is_mode : List D → Out := fDef [false, false] 0 (F_c_is_mode G_c_are_some_of G_c_modes_of G_c_parts_of)
mutual
def G_c_are_claims : Nat → List D → Out
  | 0 => fun _ => .bad
  | n + 1 => fDef [false, false] 1 (F_c_are_claims (G_c_is_claim n))
termination_by structural n => n
def G_c_is_claim : Nat → List D → Out
  | 0 => fun _ => .bad
  | n + 1 => fDef [false, false] 3 (F_c_is_claim (fun z => [(("is_sum" : Str), G_c_is_sum), (("is_mode" : Str), G_c_is_mode), (("is_not" : Str), G_c_is_not n), (("are_claims" : Str), G_c_are_claims n)].lookup z))
termination_by structural n => n
def G_c_is_not : Nat → List D → Out
  | 0 => fun _ => .bad
  | n + 1 => fDef [false, false] 0 (F_c_is_not (G_c_is_claim n))
termination_by structural n => n
end
def G_l_box : List D → Out := fDef [false, false] 1 (F_l_box)
def G_l_take : Nat → List D → Out
  | 0 => fun _ => .bad
  | n + 1 => fDef [true, false] 4 (F_l_take (G_l_take n))
def G_l_folded : List D → Out := fDef [false, false] 3 (F_l_folded)
def G_l_same : Nat → List D → Out
  | 0 => fun _ => .bad
  | n + 1 => fDef [false, false] 2 (F_l_same (G_l_same n))
def G_l_of : List D → Out := fDef [true, false] 0 (F_l_of (G_l_take 3))
def G_l_names : List D → Out := fDef [true, false] 9 (F_l_names (G_l_take 3))
def G_l_some : List D → Out := fDef [true, false, false] 2 (F_l_some (G_l_take 3))
def G_l_parts_by : List D → Out := fDef [true, false, false] 4 (F_l_parts_by G_l_some (G_l_take 3))
def G_l_pipes_by : List D → Out := fDef [true, false, false, false] 8 (F_l_pipes_by (G_l_take 3) G_l_of)
def G_l_deeds_by : List D → Out := fDef [true, false, false, false] 4 (F_l_deeds_by G_l_some G_l_of)
def G_l_sensors_by : List D → Out := fDef [true, false, false, false, false] 4 (F_l_sensors_by (G_l_take 3) G_l_some G_l_of)
def G_l_works : List D → Out := fDef [true, false, false, false, false] 10 (F_l_works G_l_parts_by G_l_pipes_by G_l_deeds_by G_l_sensors_by G_l_names (G_l_take 3))
def G_l_claim : Nat → List D → Out
  | 0 => fun _ => .bad
  | n + 1 => fDef [true, false, false] 7 (F_l_claim (G_l_take 3) G_l_of (G_l_claim n) G_l_some)
def G_l_rises : List D → Out := fDef [false, false] 1 (F_l_rises)
def G_l_is_number : List D → Out := fDef [false] 0 (F_l_is_number)
def G_l_is_claim : Nat → List D → Out
  | 0 => fun _ => .bad
  | n + 1 => fDef [false, false] 6 (F_l_is_claim G_l_rises G_l_is_number (G_l_is_claim n))
def G_l_bent : Nat → List D → Out
  | 0 => fun _ => .bad
  | n + 1 => fDef [true, false, false] 4 (F_l_bent G_l_of (G_l_take 3) (G_l_bent n))
def G_l_right : List D → Out := fDef [true] 11 (F_l_right G_l_names G_l_works (G_l_claim 6) (G_l_is_claim 14) (G_c_is_claim 26) (G_l_same 4) (G_l_bent 9))
def G_c_law : List D → Out := fDef [false] 2 (F_c_law G_l_folded G_l_right G_l_box)
abbrev s_c_is_within : Stmt := topS 1
abbrev s_c_boxes_of : Stmt := topS 2
abbrev s_c_parts_of : Stmt := topS 3
abbrev s_c_part_place : Stmt := topS 4
abbrev s_c_modes_of : Stmt := topS 5
abbrev s_c_are_some_of : Stmt := topS 8
abbrev s_c_is_sum : Stmt := topS 9
abbrev s_c_is_mode : Stmt := topS 10
abbrev s_c_is_not : Stmt := topS 11
abbrev s_c_are_claims : Stmt := topS 12
abbrev s_c_is_claim : Stmt := topS 14
abbrev s_l_box : Stmt := topS 16
abbrev s_l_take : Stmt := topS 17
abbrev s_l_folded : Stmt := topS 18
abbrev s_l_same : Stmt := topS 19
abbrev s_l_of : Stmt := topS 20
abbrev s_l_names : Stmt := topS 21
abbrev s_l_some : Stmt := topS 22
abbrev s_l_parts_by : Stmt := topS 23
abbrev s_l_pipes_by : Stmt := topS 24
abbrev s_l_deeds_by : Stmt := topS 25
abbrev s_l_sensors_by : Stmt := topS 26
abbrev s_l_works : Stmt := topS 27
abbrev s_l_claim : Stmt := topS 28
abbrev s_l_rises : Stmt := topS 29
abbrev s_l_is_number : Stmt := topS 30
abbrev s_l_is_claim : Stmt := topS 31
abbrev s_l_bent : Stmt := topS 32
abbrev s_l_right : Stmt := topS 33
abbrev s_c_law : Stmt := topS 34
theorem sc_c_is_within : FnScope ["thing", "least", "most"] ["thing", "least", "most"] (defScope s_c_is_within) := ⟨rfl, rfl, rfl, by decide +kernel, rfl, by decide +kernel, by decide +kernel⟩
theorem sc_c_boxes_of : FnScope ["works", "box"] ["works"] (defScope s_c_boxes_of) := ⟨rfl, rfl, rfl, by decide +kernel, rfl, by decide +kernel, by decide +kernel⟩
theorem sc_c_parts_of : FnScope ["works", "part"] ["works"] (defScope s_c_parts_of) := ⟨rfl, rfl, rfl, by decide +kernel, rfl, by decide +kernel, by decide +kernel⟩
theorem sc_c_part_place : FnScope ["works", "part"] ["works", "part"] (defScope s_c_part_place) := ⟨rfl, rfl, rfl, by decide +kernel, rfl, by decide +kernel, by decide +kernel⟩
theorem sc_c_modes_of : FnScope ["works", "part"] ["works", "part"] (defScope s_c_modes_of) := ⟨rfl, rfl, rfl, by decide +kernel, rfl, by decide +kernel, by decide +kernel⟩
theorem sc_c_are_some_of : FnScope ["thing", "known", "one", "other"] ["thing", "known"] (defScope s_c_are_some_of) := ⟨rfl, rfl, rfl, by decide +kernel, rfl, by decide +kernel, by decide +kernel⟩
theorem sc_c_is_sum : FnScope ["works", "parts", "number"] ["works", "parts"] (defScope s_c_is_sum) := ⟨rfl, rfl, rfl, by decide +kernel, rfl, by decide +kernel, by decide +kernel⟩
theorem sc_c_is_mode : FnScope ["works", "parts"] ["works", "parts"] (defScope s_c_is_mode) := ⟨rfl, rfl, rfl, by decide +kernel, rfl, by decide +kernel, by decide +kernel⟩
theorem sc_c_is_not : FnScope ["works", "parts"] ["works", "parts"] (defScope s_c_is_not) := ⟨rfl, rfl, rfl, by decide +kernel, rfl, by decide +kernel, by decide +kernel⟩
theorem sc_c_are_claims : FnScope ["works", "parts", "one"] ["works", "parts"] (defScope s_c_are_claims) := ⟨rfl, rfl, rfl, by decide +kernel, rfl, by decide +kernel, by decide +kernel⟩
theorem sc_c_is_claim : FnScope ["works", "thing", "is_so", "word", "parts"] ["works", "thing"] (defScope s_c_is_claim) := ⟨rfl, rfl, rfl, by decide +kernel, rfl, by decide +kernel, by decide +kernel⟩
theorem sc_l_box : FnScope ["_law_script", "_law_k", "_law_cell"] ["_law_script", "_law_k"] (defScope s_l_box) := ⟨rfl, rfl, rfl, by decide +kernel, rfl, by decide +kernel, by decide +kernel⟩
theorem sc_l_take : FnScope ["_law_box_here", "_law_room", "_law_step", "_law_once", "_law_twice", "_law_found"] ["_law_box_here", "_law_room"] (defScope s_l_take) := ⟨rfl, rfl, rfl, by decide +kernel, rfl, by decide +kernel, by decide +kernel⟩
theorem sc_l_folded : FnScope ["_law_script", "_law_room", "_law_cells", "_law_k", "_law_cell"] ["_law_script", "_law_room"] (defScope s_l_folded) := ⟨rfl, rfl, rfl, by decide +kernel, rfl, by decide +kernel, by decide +kernel⟩
theorem sc_l_same : FnScope ["_law_found", "_law_due", "_law_one", "_law_other"] ["_law_found", "_law_due"] (defScope s_l_same) := ⟨rfl, rfl, rfl, by decide +kernel, rfl, by decide +kernel, by decide +kernel⟩
theorem sc_l_of : FnScope ["_law_box_here", "_law_some_here"] ["_law_box_here", "_law_some_here"] (defScope s_l_of) := ⟨rfl, rfl, rfl, by decide +kernel, rfl, by decide +kernel, by decide +kernel⟩
theorem sc_l_names : FnScope ["_law_box_here", "_law_many", "_law_stem", "_law_k", "_law_letters", "_law_first", "_law_found", "_law_step", "_law_longer", "_law_sign", "_law_turn"] ["_law_box_here", "_law_many"] (defScope s_l_names) := ⟨rfl, rfl, rfl, by decide +kernel, rfl, by decide +kernel, by decide +kernel⟩
theorem sc_l_some : FnScope ["_law_box_here", "_law_rows", "_law_least", "_law_found", "_law_one"] ["_law_box_here", "_law_rows", "_law_least"] (defScope s_l_some) := ⟨rfl, rfl, rfl, by decide +kernel, rfl, by decide +kernel, by decide +kernel⟩
theorem sc_l_parts_by : FnScope ["_law_box_here", "_law_names_here", "_law_count", "_law_found", "_law_k", "_law_modes", "_law_odd"] ["_law_box_here", "_law_names_here", "_law_count"] (defScope s_l_parts_by) := ⟨rfl, rfl, rfl, by decide +kernel, rfl, by decide +kernel, by decide +kernel⟩
theorem sc_l_pipes_by : FnScope ["_law_box_here", "_law_boxes", "_law_parts", "_law_count", "_law_turn", "_law_spots", "_law_found", "_law_goal", "_law_least", "_law_at", "_law_part", "_law_one"] ["_law_box_here", "_law_boxes", "_law_parts", "_law_count"] (defScope s_l_pipes_by) := ⟨rfl, rfl, rfl, by decide +kernel, rfl, by decide +kernel, by decide +kernel⟩
theorem sc_l_deeds_by : FnScope ["_law_box_here", "_law_names_here", "_law_parts", "_law_count", "_law_found", "_law_k", "_law_some_here", "_law_part"] ["_law_box_here", "_law_names_here", "_law_parts", "_law_count"] (defScope s_l_deeds_by) := ⟨rfl, rfl, rfl, by decide +kernel, rfl, by decide +kernel, by decide +kernel⟩
theorem sc_l_sensors_by : FnScope ["_law_box_here", "_law_names_here", "_law_boxes", "_law_parts", "_law_count", "_law_found", "_law_k", "_law_some_here", "_law_one"] ["_law_box_here", "_law_names_here", "_law_boxes", "_law_parts", "_law_count"] (defScope s_l_sensors_by) := ⟨rfl, rfl, rfl, by decide +kernel, rfl, by decide +kernel, by decide +kernel⟩
theorem sc_l_works : FnScope ["_law_box_here", "_law_name", "_law_most_boxes", "_law_most_parts", "_law_top", "_law_k", "_law_boxes", "_law_at", "_law_parts", "_law_pipes", "_law_deeds", "_law_sensors", "_law_names_here", "_law_cap", "_law_low"] ["_law_box_here", "_law_name", "_law_most_boxes", "_law_most_parts", "_law_top"] (defScope s_l_works) := ⟨rfl, rfl, rfl, by decide +kernel, rfl, by decide +kernel, by decide +kernel⟩
theorem sc_l_claim : FnScope ["_law_box_here", "_law_works_here", "_law_high", "_law_way", "_law_low", "_law_part", "_law_word", "_law_size", "_law_turn", "_law_one"] ["_law_box_here", "_law_works_here", "_law_high"] (defScope s_l_claim) := ⟨rfl, rfl, rfl, by decide +kernel, rfl, by decide +kernel, by decide +kernel⟩
theorem sc_l_rises : FnScope ["_law_thing", "_law_known", "_law_one"] ["_law_thing", "_law_known"] (defScope s_l_rises) := ⟨rfl, rfl, rfl, by decide +kernel, rfl, by decide +kernel, by decide +kernel⟩
theorem sc_l_is_number : FnScope ["_law_thing"] ["_law_thing"] (defScope s_l_is_number) := ⟨rfl, rfl, rfl, by decide +kernel, rfl, by decide +kernel, by decide +kernel⟩
theorem sc_l_is_claim : FnScope ["_law_works_here", "_law_thing", "_law_word", "_law_size", "_law_fine", "_law_known", "_law_part", "_law_one"] ["_law_works_here", "_law_thing"] (defScope s_l_is_claim) := ⟨rfl, rfl, rfl, by decide +kernel, rfl, by decide +kernel, by decide +kernel⟩
theorem sc_l_bent : FnScope ["_law_box_here", "_law_thing", "_law_left", "_law_odd", "_law_parts", "_law_at", "_law_way"] ["_law_box_here", "_law_thing", "_law_left"] (defScope s_l_bent) := ⟨rfl, rfl, rfl, by decide +kernel, rfl, by decide +kernel, by decide +kernel⟩
theorem sc_l_right : FnScope ["_law_box_here", "_law_names_here", "_law_things", "_law_turn", "_law_thing", "_law_works_here", "_law_other", "_law_claim_here", "_law_both", "_law_ahead", "_law_due", "_law_again"] ["_law_box_here"] (defScope s_l_right) := ⟨rfl, rfl, rfl, by decide +kernel, rfl, by decide +kernel, by decide +kernel⟩
theorem sc_c_law : FnScope ["_law_script", "_law_cells", "_law_k"] ["_law_script"] (defScope s_c_law) := ⟨rfl, rfl, rfl, by decide +kernel, rfl, by decide +kernel, by decide +kernel⟩
section
variable {P : Program} {w : World} {K : PySem.W.Frag} {mg : Str → Option Value} {base : Heap} {k : Nat} {f : Addr} {fd : FuncData}
theorem b_c_is_within (Fn : Fun K "is_within" "is_within" s_c_is_within f fd) : Binds K fd ["thing", "least", "most"] [] := Fn.binds fun _ _ _ _ _ _ us hl => match us, hl with | [_, _, _], _ => rfl
theorem b_c_boxes_of (Fn : Fun K "boxes_of" "boxes_of" s_c_boxes_of f fd) : Binds K fd ["works"] [] := Fn.binds fun _ _ _ _ _ _ us hl => match us, hl with | [_], _ => rfl
theorem b_c_parts_of (Fn : Fun K "parts_of" "parts_of" s_c_parts_of f fd) : Binds K fd ["works"] [] := Fn.binds fun _ _ _ _ _ _ us hl => match us, hl with | [_], _ => rfl
theorem b_c_part_place (Fn : Fun K "part_place" "part_place" s_c_part_place f fd) : Binds K fd ["works", "part"] [] := Fn.binds fun _ _ _ _ _ _ us hl => match us, hl with | [_, _], _ => rfl
theorem b_c_modes_of (Fn : Fun K "modes_of" "modes_of" s_c_modes_of f fd) : Binds K fd ["works", "part"] [] := Fn.binds fun _ _ _ _ _ _ us hl => match us, hl with | [_, _], _ => rfl
theorem b_c_are_some_of (Fn : Fun K "are_some_of" "are_some_of" s_c_are_some_of f fd) : Binds K fd ["thing", "known"] [] := Fn.binds fun _ _ _ _ _ _ us hl => match us, hl with | [_, _], _ => rfl
theorem b_c_is_sum (Fn : Fun K "is_sum" "is_sum" s_c_is_sum f fd) : Binds K fd ["works", "parts"] [] := Fn.binds fun _ _ _ _ _ _ us hl => match us, hl with | [_, _], _ => rfl
theorem b_c_is_mode (Fn : Fun K "is_mode" "is_mode" s_c_is_mode f fd) : Binds K fd ["works", "parts"] [] := Fn.binds fun _ _ _ _ _ _ us hl => match us, hl with | [_, _], _ => rfl
theorem b_c_is_not (Fn : Fun K "is_not" "is_not" s_c_is_not f fd) : Binds K fd ["works", "parts"] [] := Fn.binds fun _ _ _ _ _ _ us hl => match us, hl with | [_, _], _ => rfl
theorem b_c_are_claims (Fn : Fun K "are_claims" "are_claims" s_c_are_claims f fd) : Binds K fd ["works", "parts"] [] := Fn.binds fun _ _ _ _ _ _ us hl => match us, hl with | [_, _], _ => rfl
theorem b_c_is_claim (Fn : Fun K "is_claim" "is_claim" s_c_is_claim f fd) : Binds K fd ["works", "thing"] [] := Fn.binds fun _ _ _ _ _ _ us hl => match us, hl with | [_, _], _ => rfl
theorem b_l_box (Fn : Fun K "_law_box" "_law_box" s_l_box f fd) : Binds K fd ["_law_script", "_law_k"] [] := Fn.binds fun _ _ _ _ _ _ us hl => match us, hl with | [_, _], _ => rfl
theorem b_l_take (Fn : Fun K "_law_take" "_law_take" s_l_take f fd) : Binds K fd ["_law_box_here", "_law_room"] [] := Fn.binds fun _ _ _ _ _ _ us hl => match us, hl with | [_, _], _ => rfl
theorem b_l_folded (Fn : Fun K "_law_folded" "_law_folded" s_l_folded f fd) : Binds K fd ["_law_script", "_law_room"] [] := Fn.binds fun _ _ _ _ _ _ us hl => match us, hl with | [_, _], _ => rfl
theorem b_l_same (Fn : Fun K "_law_same" "_law_same" s_l_same f fd) : Binds K fd ["_law_found", "_law_due"] [] := Fn.binds fun _ _ _ _ _ _ us hl => match us, hl with | [_, _], _ => rfl
theorem b_l_of (Fn : Fun K "_law_of" "_law_of" s_l_of f fd) : Binds K fd ["_law_box_here", "_law_some_here"] [] := Fn.binds fun _ _ _ _ _ _ us hl => match us, hl with | [_, _], _ => rfl
theorem b_l_names (Fn : Fun K "_law_names" "_law_names" s_l_names f fd) : Binds K fd ["_law_box_here", "_law_many"] [] := Fn.binds fun _ _ _ _ _ _ us hl => match us, hl with | [_, _], _ => rfl
theorem b_l_some (Fn : Fun K "_law_some" "_law_some" s_l_some f fd) : Binds K fd ["_law_box_here", "_law_rows", "_law_least"] [] := Fn.binds fun _ _ _ _ _ _ us hl => match us, hl with | [_, _, _], _ => rfl
theorem b_l_parts_by (Fn : Fun K "_law_parts_by" "_law_parts_by" s_l_parts_by f fd) : Binds K fd ["_law_box_here", "_law_names_here", "_law_count"] [] := Fn.binds fun _ _ _ _ _ _ us hl => match us, hl with | [_, _, _], _ => rfl
theorem b_l_pipes_by (Fn : Fun K "_law_pipes_by" "_law_pipes_by" s_l_pipes_by f fd) : Binds K fd ["_law_box_here", "_law_boxes", "_law_parts", "_law_count"] [] := Fn.binds fun _ _ _ _ _ _ us hl => match us, hl with | [_, _, _, _], _ => rfl
theorem b_l_deeds_by (Fn : Fun K "_law_deeds_by" "_law_deeds_by" s_l_deeds_by f fd) : Binds K fd ["_law_box_here", "_law_names_here", "_law_parts", "_law_count"] [] := Fn.binds fun _ _ _ _ _ _ us hl => match us, hl with | [_, _, _, _], _ => rfl
theorem b_l_sensors_by (Fn : Fun K "_law_sensors_by" "_law_sensors_by" s_l_sensors_by f fd) : Binds K fd ["_law_box_here", "_law_names_here", "_law_boxes", "_law_parts", "_law_count"] [] := Fn.binds fun _ _ _ _ _ _ us hl => match us, hl with | [_, _, _, _, _], _ => rfl
theorem b_l_works (Fn : Fun K "_law_works" "_law_works" s_l_works f fd) : Binds K fd ["_law_box_here", "_law_name", "_law_most_boxes", "_law_most_parts", "_law_top"] [] := Fn.binds fun _ _ _ _ _ _ us hl => match us, hl with | [_, _, _, _, _], _ => rfl
theorem b_l_claim (Fn : Fun K "_law_claim" "_law_claim" s_l_claim f fd) : Binds K fd ["_law_box_here", "_law_works_here", "_law_high"] [] := Fn.binds fun _ _ _ _ _ _ us hl => match us, hl with | [_, _, _], _ => rfl
theorem b_l_rises (Fn : Fun K "_law_rises" "_law_rises" s_l_rises f fd) : Binds K fd ["_law_thing", "_law_known"] [] := Fn.binds fun _ _ _ _ _ _ us hl => match us, hl with | [_, _], _ => rfl
theorem b_l_is_number (Fn : Fun K "_law_is_number" "_law_is_number" s_l_is_number f fd) : Binds K fd ["_law_thing"] [] := Fn.binds fun _ _ _ _ _ _ us hl => match us, hl with | [_], _ => rfl
theorem b_l_is_claim (Fn : Fun K "_law_is_claim" "_law_is_claim" s_l_is_claim f fd) : Binds K fd ["_law_works_here", "_law_thing"] [] := Fn.binds fun _ _ _ _ _ _ us hl => match us, hl with | [_, _], _ => rfl
theorem b_l_bent (Fn : Fun K "_law_bent" "_law_bent" s_l_bent f fd) : Binds K fd ["_law_box_here", "_law_thing", "_law_left"] [] := Fn.binds fun _ _ _ _ _ _ us hl => match us, hl with | [_, _, _], _ => rfl
theorem b_l_right (Fn : Fun K "_law_right" "_law_right" s_l_right f fd) : Binds K fd ["_law_box_here"] [] := Fn.binds fun _ _ _ _ _ _ us hl => match us, hl with | [_], _ => rfl
theorem b_c_law (Fn : Fun K "law" "law" s_c_law f fd) : Binds K fd ["_law_script"] [] := Fn.binds fun _ _ _ _ _ _ us hl => match us, hl with | [_], _ => rfl
set_option maxHeartbeats 4000000 in
theorem ok_c_is_within (Z : Zs mg) (Fn : Fun K "is_within" "is_within" s_c_is_within f fd) (hm : mg "is_within" = some (.ref f)) : Cal P w K mg base (k + 1) "is_within" [false, false, false] (fDef [false, false, false] 0 (F_c_is_within)) := by
  refine Cal.mk' Fn hm sc_c_is_within rfl rfl (b_c_is_within Fn) fun cdv A outer s H E hr hG => ?_
  have hu : A.units + 3 + 100 < cLine := hu_of hr
  have nd := sc_c_is_within.nd
  exact (dss_cons (ds_ret (de_and (de_isi wp rfl Z.z_isinstance rfl Z.z_int PyProof.Rows.boot_int) (de_and (de_not (de_isi wp rfl Z.z_isinstance rfl Z.z_bool PyProof.Rows.boot_bool)) (de_one (de_chain po_le po_le wv wv wv)))))
      dss_nil)
set_option maxHeartbeats 4000000 in
theorem ok_c_boxes_of (Z : Zs mg) (Fn : Fun K "boxes_of" "boxes_of" s_c_boxes_of f fd) (hm : mg "boxes_of" = some (.ref f)) : Cal P w K mg base (k + 1) "boxes_of" [false] (fDef [false] 1 (F_c_boxes_of)) := by
  refine Cal.mk' Fn hm sc_c_boxes_of rfl rfl (b_c_boxes_of Fn) fun cdv A outer s H E hr hG => ?_
  have hu : A.units + 3 + 100 < cLine := hu_of hr
  have nd := sc_c_boxes_of.nd
  exact (dss_cons (ds_ret (de_lc (own := [("box", 1)]) rfl nd (di_ex (de_ix wp (dp_v de_int))) (blkOk_by (by rfl)) (fun _ _ _ _ _ => (wnm nd)) (fun _ _ _ _ _ => dts_nil) (fun _ _ _ _ _ => (de_ix wp (dp_v de_int))) (by decide)))
      dss_nil)
set_option maxHeartbeats 4000000 in
theorem ok_c_parts_of (Z : Zs mg) (Fn : Fun K "parts_of" "parts_of" s_c_parts_of f fd) (hm : mg "parts_of" = some (.ref f)) : Cal P w K mg base (k + 1) "parts_of" [false] (fDef [false] 1 (F_c_parts_of)) := by
  refine Cal.mk' Fn hm sc_c_parts_of rfl rfl (b_c_parts_of Fn) fun cdv A outer s H E hr hG => ?_
  have hu : A.units + 3 + 100 < cLine := hu_of hr
  have nd := sc_c_parts_of.nd
  exact (dss_cons (ds_ret (de_lc (own := [("part", 1)]) rfl nd (di_ex (de_ix wp (dp_v de_int))) (blkOk_by (by rfl)) (fun _ _ _ _ _ => (wnm nd)) (fun _ _ _ _ _ => dts_nil) (fun _ _ _ _ _ => (de_ix wp (dp_v de_int))) (by decide)))
      dss_nil)
set_option maxHeartbeats 4000000 in
theorem ok_c_part_place (Z : Zs mg) {g_c_parts_of : List D → Out} (h_c_parts_of : Cal P w K mg base k "parts_of" [false] g_c_parts_of) (Fn : Fun K "part_place" "part_place" s_c_part_place f fd) (hm : mg "part_place" = some (.ref f)) : Cal P w K mg base (k + 1) "part_place" [false, false] (fDef [false, false] 0 (F_c_part_place g_c_parts_of)) := by
  refine Cal.mk' Fn hm sc_c_part_place rfl rfl (b_c_part_place Fn) fun cdv A outer s H E hr hG => ?_
  have hu : A.units + 3 + 100 < cLine := hu_of hr
  have nd := sc_c_part_place.nd
  exact (dss_cons (ds_ret (de_meth PySem.F.plainAttrs_list PySem.F.slot_list_index PySem.F.type_list_index tyV_lst pm_index (dp_v (wcall h_c_parts_of hr hG (da_cons (dp_v wv) da_nil))) (da_cons wp da_nil)))
      dss_nil)
set_option maxHeartbeats 4000000 in
theorem ok_c_modes_of (Z : Zs mg) {g_c_part_place : List D → Out} (h_c_part_place : Cal P w K mg base k "part_place" [false, false] g_c_part_place) (Fn : Fun K "modes_of" "modes_of" s_c_modes_of f fd) (hm : mg "modes_of" = some (.ref f)) : Cal P w K mg base (k + 1) "modes_of" [false, false] (fDef [false, false] 0 (F_c_modes_of g_c_part_place)) := by
  refine Cal.mk' Fn hm sc_c_modes_of rfl rfl (b_c_modes_of Fn) fun cdv A outer s H E hr hG => ?_
  have hu : A.units + 3 + 100 < cLine := hu_of hr
  have nd := sc_c_modes_of.nd
  exact (dss_cons (ds_ret (de_ix (dp_v (de_ix (dp_v (de_ix wp (dp_v de_int))) (dp_v (wcall h_c_part_place hr hG (da_cons (dp_v wv) (da_cons (dp_v wv) da_nil)))))) (dp_v de_int)))
      dss_nil)
set_option maxHeartbeats 4000000 in
theorem ok_c_are_some_of (Z : Zs mg) (Fn : Fun K "are_some_of" "are_some_of" s_c_are_some_of f fd) (hm : mg "are_some_of" = some (.ref f)) : Cal P w K mg base (k + 1) "are_some_of" [false, false] (fDef [false, false] 2 (F_c_are_some_of)) := by
  refine Cal.mk' Fn hm sc_c_are_some_of rfl rfl (b_c_are_some_of Fn) fun cdv A outer s H E hr hG => ?_
  have hu : A.units + 3 + 100 < cLine := hu_of hr
  have nd := sc_c_are_some_of.nd
  exact (dss_cons (ds_if (DW.t (dw_or (dt_not (dt_val (de_isi wp rfl Z.z_isinstance rfl Z.z_tuple PyProof.Rows.boot_tuple))) (dw_or1 (dt_cmp (po_eq hu) (dp_v (de_callB pc_len rfl Z.z_len boot_len (da_cons wp da_nil))) (dp_v de_int) rfl)))) (dss_cons (ds_ret de_bl)
      dss_nil) dss_nil)
      (dss_cons (ds_if (dt_not (dt_val (de_callB (pc_all rfl) rfl Z.z_all PyProof.Rows.boot_all (da_cons (dp_v (de_lc (own := [("one", 2)]) rfl nd (di_sl ws) (blkOk_by (by rfl)) (fun _ _ _ _ _ => (wnm nd)) (fun _ _ _ _ _ => dts_nil) (fun _ _ _ _ _ => (de_and (de_isi wp rfl Z.z_isinstance rfl Z.z_str PyProof.Rows.boot_str) (de_one (de_cmp (po_in hu) wp wp rfl)))) (by decide))) da_nil)))) (dss_cons (ds_ret de_bl)
      dss_nil) dss_nil)
      (dss_cons (ds_ret (de_callB (pc_all rfl) rfl Z.z_all PyProof.Rows.boot_all (da_cons (dp_v (de_lc (own := [("one", 2), ("other", 3)]) rfl nd (di_zip rfl Z.z_zip (da_cons (dp_v wv) (da_cons (dp_v (de_sl wp (db_at (dp_v de_int)) db_no)) da_nil))) (blkOk_by (by rfl)) (fun _ _ _ _ _ => (dg_tp rfl (dgs_cons (wnm nd) (dgs_cons (wnm nd) dgs_nil)) rfl)) (fun _ _ _ _ _ => dts_nil) (fun _ _ _ _ _ => (de_cmp po_lt wp wp rfl)) (by decide))) da_nil)))
      dss_nil)))
set_option maxHeartbeats 4000000 in
theorem ok_c_is_sum (Z : Zs mg) {g_c_are_some_of g_c_is_within g_c_boxes_of : List D → Out} (h_c_are_some_of : Cal P w K mg base k "are_some_of" [false, false] g_c_are_some_of) (h_c_is_within : Cal P w K mg base k "is_within" [false, false, false] g_c_is_within) (h_c_boxes_of : Cal P w K mg base k "boxes_of" [false] g_c_boxes_of) (Fn : Fun K "is_sum" "is_sum" s_c_is_sum f fd) (hm : mg "is_sum" = some (.ref f)) : Cal P w K mg base (k + 1) "is_sum" [false, false] (fDef [false, false] 1 (F_c_is_sum g_c_are_some_of g_c_is_within g_c_boxes_of)) := by
  refine Cal.mk' Fn hm sc_c_is_sum rfl rfl (b_c_is_sum Fn) fun cdv A outer s H E hr hG => ?_
  have hu : A.units + 3 + 100 < cLine := hu_of hr
  have nd := sc_c_is_sum.nd
  exact (dss_cons (ds_if (DW.t (dw_or (dt_cmp (po_ne hu) (dp_v (de_callB pc_len rfl Z.z_len boot_len (da_cons wp da_nil))) (dp_v de_int) rfl) (dw_or1 (dt_not (dt_val (wcall h_c_are_some_of hr hG (da_cons (dp_v (de_ix wp (dp_v de_int))) (da_cons (dp_v (wcall h_c_boxes_of hr hG (da_cons (dp_v wv) da_nil))) da_nil)))))))) (dss_cons (ds_ret de_bl)
      dss_nil) dss_nil)
      (dss_cons (ds_ret (de_callB (pc_all rfl) rfl Z.z_all PyProof.Rows.boot_all (da_cons (dp_v (de_lc (own := [("number", 2)]) rfl nd (di_ex (de_sl wp (db_at (dp_v de_int)) db_no)) (blkOk_by (by rfl)) (fun _ _ _ _ _ => (wnm nd)) (fun _ _ _ _ _ => dts_nil) (fun _ _ _ _ _ => (wcall h_c_is_within hr hG (da_cons (dp_v wv) (da_cons (dp_v de_int) (da_cons (dp_v (Z.c_MOST_SUM.elim fun _ h => de_gint rfl h)) da_nil))))) (by decide))) da_nil)))
      dss_nil))
set_option maxHeartbeats 4000000 in
theorem ok_c_is_mode (Z : Zs mg) {g_c_are_some_of g_c_modes_of g_c_parts_of : List D → Out} (h_c_are_some_of : Cal P w K mg base k "are_some_of" [false, false] g_c_are_some_of) (h_c_modes_of : Cal P w K mg base k "modes_of" [false, false] g_c_modes_of) (h_c_parts_of : Cal P w K mg base k "parts_of" [false] g_c_parts_of) (Fn : Fun K "is_mode" "is_mode" s_c_is_mode f fd) (hm : mg "is_mode" = some (.ref f)) : Cal P w K mg base (k + 1) "is_mode" [false, false] (fDef [false, false] 0 (F_c_is_mode g_c_are_some_of g_c_modes_of g_c_parts_of)) := by
  refine Cal.mk' Fn hm sc_c_is_mode rfl rfl (b_c_is_mode Fn) fun cdv A outer s H E hr hG => ?_
  have hu : A.units + 3 + 100 < cLine := hu_of hr
  have nd := sc_c_is_mode.nd
  exact (dss_cons (ds_if (DW.t (dw_or (dt_cmp (po_ne hu) (dp_v (de_callB pc_len rfl Z.z_len boot_len (da_cons wp da_nil))) (dp_v de_int) rfl) (dw_or (dt_not (dt_val (de_isi (dp_v (de_ix wp (dp_v de_int))) rfl Z.z_isinstance rfl Z.z_str PyProof.Rows.boot_str))) (dw_or1 (dt_cmp (po_notIn hu) (dp_v (de_ix wp (dp_v de_int))) (dp_v (wcall h_c_parts_of hr hG (da_cons (dp_v wv) da_nil))) rfl))))) (dss_cons (ds_ret de_bl)
      dss_nil) dss_nil)
      (dss_cons (ds_ret (wcall h_c_are_some_of hr hG (da_cons (dp_v (de_ix wp (dp_v de_int))) (da_cons (dp_v (wcall h_c_modes_of hr hG (da_cons (dp_v wv) (da_cons (dp_v (de_ix wp (dp_v de_int))) da_nil)))) da_nil))))
      dss_nil))
set_option maxHeartbeats 4000000 in
theorem ok_c_is_not (Z : Zs mg) {g_c_is_claim : List D → Out} (h_c_is_claim : Cal P w K mg base k "is_claim" [false, false] g_c_is_claim) (Fn : Fun K "is_not" "is_not" s_c_is_not f fd) (hm : mg "is_not" = some (.ref f)) : Cal P w K mg base (k + 1) "is_not" [false, false] (fDef [false, false] 0 (F_c_is_not g_c_is_claim)) := by
  refine Cal.mk' Fn hm sc_c_is_not rfl rfl (b_c_is_not Fn) fun cdv A outer s H E hr hG => ?_
  have hu : A.units + 3 + 100 < cLine := hu_of hr
  have nd := sc_c_is_not.nd
  exact (dss_cons (ds_ret (de_and (de_cmp (po_eq hu) (dp_v (de_callB pc_len rfl Z.z_len boot_len (da_cons wp da_nil))) (dp_v de_int) rfl) (de_one (wcall h_c_is_claim hr hG (da_cons (dp_v wv) (da_cons (dp_v (de_ix wp (dp_v de_int))) da_nil))))))
      dss_nil)
set_option maxHeartbeats 4000000 in
theorem ok_c_are_claims (Z : Zs mg) {g_c_is_claim : List D → Out} (h_c_is_claim : Cal P w K mg base k "is_claim" [false, false] g_c_is_claim) (Fn : Fun K "are_claims" "are_claims" s_c_are_claims f fd) (hm : mg "are_claims" = some (.ref f)) : Cal P w K mg base (k + 1) "are_claims" [false, false] (fDef [false, false] 1 (F_c_are_claims g_c_is_claim)) := by
  refine Cal.mk' Fn hm sc_c_are_claims rfl rfl (b_c_are_claims Fn) fun cdv A outer s H E hr hG => ?_
  have hu : A.units + 3 + 100 < cLine := hu_of hr
  have nd := sc_c_are_claims.nd
  exact (dss_cons (ds_if (DW.t (dw_or (dt_cmp (po_ne hu) (dp_v (de_callB pc_len rfl Z.z_len boot_len (da_cons wp da_nil))) (dp_v de_int) rfl) (dw_or1 (dt_not (dt_val (de_isi (dp_v (de_ix wp (dp_v de_int))) rfl Z.z_isinstance rfl Z.z_tuple PyProof.Rows.boot_tuple)))))) (dss_cons (ds_ret de_bl)
      dss_nil) dss_nil)
      (dss_cons (ds_ret (de_callB (pc_all rfl) rfl Z.z_all PyProof.Rows.boot_all (da_cons (dp_v (de_lc (own := [("one", 2)]) rfl nd (di_ex (de_ix wp (dp_v de_int))) (blkOk_by (by rfl)) (fun _ _ _ _ _ => (wnm nd)) (fun _ _ _ _ _ => dts_nil) (fun _ _ _ _ _ => (wcall h_c_is_claim hr hG (da_cons (dp_v wv) (da_cons (dp_v wv) da_nil)))) (by decide))) da_nil)))
      dss_nil))
set_option maxHeartbeats 4000000 in
theorem ok_c_is_claim (Z : Zs mg) {gs : Str → Option (List D → Out)} (hgs : ∀ z G, gs z = some G → Cal P w K mg base k z [false, false] G) {a_CLAIM_FORMS : Addr} (t_CLAIM_FORMS : mg "CLAIM_FORMS" = some (.ref a_CLAIM_FORMS) ∧ ∀ z f, T_CLAIM_FORMS.lookup z = some f → ∃ a, mg f = some (.ref a) ∧ KDct K w a_CLAIM_FORMS z (.ref a)) (i_CLAIM_FORMS : TabIn K w a_CLAIM_FORMS ["sum", "mode", "not", "all", "any"]) (Fn : Fun K "is_claim" "is_claim" s_c_is_claim f fd) (hm : mg "is_claim" = some (.ref f)) : Cal P w K mg base (k + 1) "is_claim" [false, false] (fDef [false, false] 3 (F_c_is_claim gs)) := by
  refine Cal.mk' Fn hm sc_c_is_claim rfl rfl (b_c_is_claim Fn) fun cdv A outer s H E hr hG => ?_
  have hu : A.units + 3 + 100 < cLine := hu_of hr
  have nd := sc_c_is_claim.nd
  exact (dss_cons (ds_if (DW.t (dw_or (dt_not (dt_val (de_isi wp rfl Z.z_isinstance rfl Z.z_tuple PyProof.Rows.boot_tuple))) (dw_or (dt_cmp (po_eq hu) (dp_v (de_callB pc_len rfl Z.z_len boot_len (da_cons wp da_nil))) (dp_v de_int) rfl) (dw_or1 (dt_not (dt_val (de_isi (dp_v (de_ix wp (dp_v de_int))) rfl Z.z_isinstance rfl Z.z_str PyProof.Rows.boot_str))))))) (dss_cons (ds_ret de_bl)
      dss_nil) dss_nil)
      (dss_cons (ds_star rfl nd rfl rfl (by first | exact Or.inl rfl | exact Or.inr rfl) (by first | exact Or.inl rfl | exact Or.inr rfl) wv)
      (dss_cons (ds_if (dt_notInTab rfl t_CLAIM_FORMS.1 i_CLAIM_FORMS wp) (dss_cons (ds_ret de_bl)
      dss_nil) dss_nil)
      (dss_cons (wset nd (de_look rfl t_CLAIM_FORMS.1 t_CLAIM_FORMS.2 wp))
      (dss_cons (ds_ret (de_callV (fun z G e => Cal.callee (hgs z G e)) hr hG rfl (by first | exact Or.inl rfl | exact Or.inr (Or.inl rfl)) (da_cons (dp_v wv) (da_cons (dp_v wv) da_nil)) rfl (by decide)))
      dss_nil)))))
set_option maxHeartbeats 4000000 in
theorem ok_l_box (Z : Zs mg) (Fn : Fun K "_law_box" "_law_box" s_l_box f fd) (hm : mg "_law_box" = some (.ref f)) : Cal P w K mg base (k + 1) "_law_box" [false, false] (fDef [false, false] 1 (F_l_box)) := by
  refine Cal.mk' Fn hm sc_l_box rfl rfl (b_l_box Fn) fun cdv A outer s H E hr hG => ?_
  have hu : A.units + 3 + 100 < cLine := hu_of hr
  have nd := sc_l_box.nd
  exact (dss_cons (wset nd (de_if (dt_cmp po_lt wp (dp_v (de_callB pc_len rfl Z.z_len boot_len (da_cons wp da_nil))) rfl) (de_ix wp wp) de_int))
      (dss_cons (ds_ret (de_lst (da_cons (dp_v (de_bin po_mul (dp_v (de_callB pc_abs rfl Z.z_abs PyProof.Rows.boot_abs (da_cons wp da_nil))) (dp_v (de_callT pc_int rfl Z.z_int PyProof.Rows.boot_int (da_cons (dp_v (de_cmp po_ge (dp_v (de_callB pc_abs rfl Z.z_abs PyProof.Rows.boot_abs (da_cons wp da_nil))) (dp_v (de_bin po_pow (dp_v de_int) (dp_v de_int))) rfl)) da_nil))))) (da_cons (dp_v (de_bin po_mod (dp_v (de_bin po_mul (dp_v (de_bin po_add (dp_v (de_bin po_add (dp_v (de_bin po_mod wp (dp_v de_int))) (dp_v (de_bin po_mul (dp_v de_int) wp)))) (dp_v de_int))) (dp_v de_int))) (dp_v de_int))) (da_cons (dp_v de_int) da_nil)))))
      dss_nil))
set_option maxHeartbeats 4000000 in
theorem ok_l_take (Z : Zs mg) {g_l_take : List D → Out} (h_l_take : Cal P w K mg base k "_law_take" [true, false] g_l_take) (Fn : Fun K "_law_take" "_law_take" s_l_take f fd) (hm : mg "_law_take" = some (.ref f)) : Cal P w K mg base (k + 1) "_law_take" [true, false] (fDef [true, false] 4 (F_l_take g_l_take)) := by
  refine Cal.mk' Fn hm sc_l_take rfl rfl (b_l_take Fn) fun cdv A outer s H E hr hG => ?_
  have hu : A.units + 3 + 100 < cLine := hu_of hr
  have nd := sc_l_take.nd
  exact (dss_cons (ds_if (dt_cmp po_gt (dp_v (de_ix wp (dp_v de_int))) (dp_v de_int) rfl) (dss_cons (ds_unpAt rfl ws de_int nd rfl (by first | exact Or.inl rfl | exact Or.inr rfl) (de_callB pc_divmod rfl Z.z_divmod PyProof.Rows.boot_divmod (da_cons (dp_v (de_ix wp (dp_v de_int))) (da_cons wp da_nil))))
      (dss_cons wret
      dss_nil)) dss_nil)
      (dss_cons (ds_if (dt_cmp po_gt wp (dp_v (de_bin po_pow (dp_v de_int) (dp_v de_int))) rfl) (dss_cons (ds_ret (de_bin po_mod (dp_v (de_bin po_add (dp_v (wcall h_l_take hr hG (da_cons wp (da_cons (dp_v (de_bin po_pow (dp_v de_int) (dp_v de_int))) da_nil)))) (dp_v (de_bin po_mul (dp_v (de_bin po_pow (dp_v de_int) (dp_v de_int))) (dp_v (wcall h_l_take hr hG (da_cons wp (da_cons (dp_v (de_bin po_add (dp_v (de_bin po_div (dp_v (de_bin po_sub wp (dp_v de_int))) (dp_v (de_bin po_pow (dp_v de_int) (dp_v de_int))))) (dp_v de_int))) da_nil)))))))) wp))
      dss_nil) dss_nil)
      (dss_cons (ds_put ws de_int (de_bin po_add (dp_v (de_ix wp (dp_v de_int))) (dp_v de_int)))
      (dss_cons (wset nd (de_bin po_add (dp_v de_int) (dp_v (de_bin po_mul (dp_v (de_ix wp (dp_v de_int))) (dp_v (de_ix wp (dp_v de_int)))))))
      (dss_cons (wset nd (de_bin po_mod (dp_v (de_bin po_mul (dp_v (de_bin po_add (dp_v (de_ix wp (dp_v de_int))) (dp_v (de_bin po_mul (dp_v de_int) (dp_v (de_ix wp (dp_v de_int))))))) wp)) (dp_v de_int)))
      (dss_cons (wset nd (de_bin po_mod (dp_v (de_bin po_add (dp_v (de_bin po_mul wp (dp_v (de_bin po_add (dp_v (de_bin po_mod wp (dp_v de_int))) (dp_v de_int))))) (dp_v (de_ix wp (dp_v de_int))))) (dp_v de_int)))
      (dss_cons (ds_ret (de_bin po_mod (dp_v (de_bin po_div (dp_v (de_bin po_mod (dp_v (de_bin po_mul wp (dp_v (de_bin po_add (dp_v (de_bin po_mod wp (dp_v de_int))) (dp_v de_int))))) (dp_v de_int))) (dp_v de_int))) wp))
      dss_nil)))))))
set_option maxHeartbeats 4000000 in
theorem ok_l_folded (Z : Zs mg) (Fn : Fun K "_law_folded" "_law_folded" s_l_folded f fd) (hm : mg "_law_folded" = some (.ref f)) : Cal P w K mg base (k + 1) "_law_folded" [false, false] (fDef [false, false] 3 (F_l_folded)) := by
  refine Cal.mk' Fn hm sc_l_folded rfl rfl (b_l_folded Fn) fun cdv A outer s H E hr hG => ?_
  have hu : A.units + 3 + 100 < cLine := hu_of hr
  have nd := sc_l_folded.nd
  exact (dss_cons (wset nd (de_callT pc_list rfl Z.z_list PyProof.Rows.boot_list (da_cons (dp_v (de_sl wp db_no (db_at wp))) da_nil)))
      (dss_cons (ds_for PassesOwn.never rfl (di_enum rfl Z.z_enumerate (da_cons (dp_v (de_sl wp (db_at wp) (db_at (dp_v de_int)))) da_nil)) (dg_tp rfl (dgs_cons (wnm nd) (dgs_cons (wnm nd) dgs_nil)) rfl) (dss_cons (ds_put ws (de_bin po_mod wp wp) (de_bin po_add (dp_v (de_ix wp (dp_v (de_bin po_mod wp wp)))) (dp_v (de_bin po_mul wp (dp_v (de_bin po_add wp (dp_v de_int)))))))
      dss_nil))
      (dss_cons (ds_ret (de_if (dt_cmp (po_ne hu) wp (dp_v (de_lst da_nil)) rfl) wv (de_lst (da_cons (dp_v de_int) da_nil))))
      dss_nil)))
set_option maxHeartbeats 4000000 in
theorem ok_l_same (Z : Zs mg) {g_l_same : List D → Out} (h_l_same : Cal P w K mg base k "_law_same" [false, false] g_l_same) (Fn : Fun K "_law_same" "_law_same" s_l_same f fd) (hm : mg "_law_same" = some (.ref f)) : Cal P w K mg base (k + 1) "_law_same" [false, false] (fDef [false, false] 2 (F_l_same g_l_same)) := by
  refine Cal.mk' Fn hm sc_l_same rfl rfl (b_l_same Fn) fun cdv A outer s H E hr hG => ?_
  have hu : A.units + 3 + 100 < cLine := hu_of hr
  have nd := sc_l_same.nd
  exact (dss_cons (ds_if (dt_val (de_isi2 wp rfl Z.z_isinstance rfl Z.z_list PyProof.Rows.boot_list rfl Z.z_tuple PyProof.Rows.boot_tuple)) (dss_cons (ds_if (DW.t (dw_or (dt_cmp (po_ne hu) (dp_v (de_isi wp rfl Z.z_isinstance rfl Z.z_list PyProof.Rows.boot_list)) (dp_v (de_isi wp rfl Z.z_isinstance rfl Z.z_list PyProof.Rows.boot_list)) rfl) (dw_or1 (dt_cmp (po_ne hu) (dp_v (de_isi wp rfl Z.z_isinstance rfl Z.z_tuple PyProof.Rows.boot_tuple)) (dp_v (de_isi wp rfl Z.z_isinstance rfl Z.z_tuple PyProof.Rows.boot_tuple)) rfl)))) (dss_cons (ds_ret de_bl)
      dss_nil) dss_nil)
      (dss_cons (ds_ret (de_and (de_cmp (po_eq hu) (dp_v (de_callB pc_len rfl Z.z_len boot_len (da_cons wp da_nil))) (dp_v (de_callB pc_len rfl Z.z_len boot_len (da_cons wp da_nil))) rfl) (de_one (de_callB (pc_all rfl) rfl Z.z_all PyProof.Rows.boot_all (da_cons (dp_v (de_lc (own := [("_law_one", 2), ("_law_other", 3)]) rfl nd (di_zip rfl Z.z_zip (da_cons (dp_v wv) (da_cons (dp_v wv) da_nil))) (blkOk_by (by rfl)) (fun _ _ _ _ _ => (dg_tp rfl (dgs_cons (wnm nd) (dgs_cons (wnm nd) dgs_nil)) rfl)) (fun _ _ _ _ _ => dts_nil) (fun _ _ _ _ _ => (wcall h_l_same hr hG (da_cons (dp_v wv) (da_cons (dp_v wv) da_nil)))) (by decide))) da_nil)))))
      dss_nil)) dss_nil)
      (dss_cons (ds_if (DW.t (dw_or (dt_cmp po_isN wp (dp_v de_non) rfl) (dw_or1 (dt_val (de_isi wp rfl Z.z_isinstance rfl Z.z_str PyProof.Rows.boot_str))))) (dss_cons (ds_ret (de_and (de_cmp (po_eq hu) wp wp rfl) (de_one (de_cmp (po_eq hu) (dp_v (de_isi wp rfl Z.z_isinstance rfl Z.z_str PyProof.Rows.boot_str)) (dp_v (de_isi wp rfl Z.z_isinstance rfl Z.z_str PyProof.Rows.boot_str)) rfl))))
      dss_nil) dss_nil)
      (dss_cons (ds_ret (de_and (de_isi wp rfl Z.z_isinstance rfl Z.z_int PyProof.Rows.boot_int) (de_and (de_cmp (po_eq hu) (dp_v (de_isi wp rfl Z.z_isinstance rfl Z.z_bool PyProof.Rows.boot_bool)) (dp_v (de_isi wp rfl Z.z_isinstance rfl Z.z_bool PyProof.Rows.boot_bool)) rfl) (de_one (de_cmp (po_eq hu) wp wp rfl)))))
      dss_nil)))
set_option maxHeartbeats 4000000 in
theorem ok_l_of (Z : Zs mg) {g_l_take : List D → Out} (h_l_take : Cal P w K mg base k "_law_take" [true, false] g_l_take) (Fn : Fun K "_law_of" "_law_of" s_l_of f fd) (hm : mg "_law_of" = some (.ref f)) : Cal P w K mg base (k + 1) "_law_of" [true, false] (fDef [true, false] 0 (F_l_of g_l_take)) := by
  refine Cal.mk' Fn hm sc_l_of rfl rfl (b_l_of Fn) fun cdv A outer s H E hr hG => ?_
  have hu : A.units + 3 + 100 < cLine := hu_of hr
  have nd := sc_l_of.nd
  exact (dss_cons (ds_ret (de_ix wp (dp_v (wcall h_l_take hr hG (da_cons wp (da_cons (dp_v (de_callB pc_len rfl Z.z_len boot_len (da_cons wp da_nil))) da_nil))))))
      dss_nil)
set_option maxHeartbeats 4000000 in
theorem ok_l_names (Z : Zs mg) {g_l_take : List D → Out} (h_l_take : Cal P w K mg base k "_law_take" [true, false] g_l_take) (Fn : Fun K "_law_names" "_law_names" s_l_names f fd) (hm : mg "_law_names" = some (.ref f)) : Cal P w K mg base (k + 1) "_law_names" [true, false] (fDef [true, false] 9 (F_l_names g_l_take)) := by
  refine Cal.mk' Fn hm sc_l_names rfl rfl (b_l_names Fn) fun cdv A outer s H E hr hG => ?_
  have hu : A.units + 3 + 100 < cLine := hu_of hr
  have nd := sc_l_names.nd
  exact (dss_cons (ds_parT rfl (dv_cons de_str (dv_cons (wcall h_l_take hr hG (da_cons wp (da_cons (dp_v de_int) da_nil))) (dv_cons (de_lst da_nil) dv_nil))) (pgs_cons (wpn nd) (pgs_cons (wpn nd) (pgs_cons (wpn nd) pgs_nil))) rfl (Nat.le_of_ble_eq_true rfl))
      (dss_cons (wset nd (de_meth PySem.F.plainAttrs_str PySem.F.slot_str_join PySem.F.type_str_join tyV_str pm_join (dp_v de_str) (da_cons (dp_v (de_lc (own := [("_law_turn", 10)]) rfl nd (di_rng rfl Z.z_range (da_cons (dp_v (wcall h_l_take hr hG (da_cons wp (da_cons (dp_v de_int) da_nil)))) da_nil)) (blkOk_by (by rfl)) (fun _ _ _ _ _ => (wnm nd)) (fun _ _ _ _ _ => dts_nil) (fun _ _ _ _ _ => (de_ix wp (dp_v (wcall h_l_take hr hG (da_cons wp (da_cons (dp_v de_int) da_nil)))))) (by decide))) da_nil)))
      (dss_cons (wset nd (de_if (dt_cmp (po_eq hu) wp (dp_v de_str) rfl) de_str wv))
      (dss_cons (ds_par rfl nd rfl rfl (by decide) rfl rfl (dv_cons (de_ix (dp_v (de_lst (da_cons (dp_v de_int) (da_cons (dp_v de_int) (da_cons (dp_v de_int) da_nil))))) (dp_v (wcall h_l_take hr hG (da_cons wp (da_cons (dp_v de_int) da_nil))))) (dv_cons (wcall h_l_take hr hG (da_cons wp (da_cons (dp_v de_int) da_nil))) dv_nil)) (by rfl))
      (dss_cons (ds_for PassesOwn.never rfl (di_rng rfl Z.z_range (da_cons (dp_v wv) da_nil)) (wnm nd) (dss_cons (wset nd (de_ix wp (dp_v (de_bin po_mod (dp_v (de_bin po_add wp (dp_v (de_bin po_mul wp (dp_v (de_if (dt_cmp (po_eq hu) wp (dp_v de_int) rfl) (de_bin po_div wp (dp_v de_int)) wv)))))) (dp_v de_int)))))
      (dss_cons (ds_expr (de_app ws (de_bin po_add (dp_v (de_bin po_add wp wp)) (dp_v (de_bin po_mul (dp_v de_str) (dp_v (de_callT pc_int rfl Z.z_int PyProof.Rows.boot_int (da_cons (dp_v (de_and (de_cmp (po_eq hu) wp (dp_v de_int) rfl) (de_one (de_cmp (po_eq hu) (dp_v (de_bin po_mod wp (dp_v de_int))) (dp_v de_int) rfl)))) da_nil))))))))
      dss_nil)))
      (dss_cons wret
      dss_nil))))))
set_option maxHeartbeats 4000000 in
theorem ok_l_some (Z : Zs mg) {g_l_take : List D → Out} (h_l_take : Cal P w K mg base k "_law_take" [true, false] g_l_take) (Fn : Fun K "_law_some" "_law_some" s_l_some f fd) (hm : mg "_law_some" = some (.ref f)) : Cal P w K mg base (k + 1) "_law_some" [true, false, false] (fDef [true, false, false] 2 (F_l_some g_l_take)) := by
  refine Cal.mk' Fn hm sc_l_some rfl rfl (b_l_some Fn) fun cdv A outer s H E hr hG => ?_
  have hu : A.units + 3 + 100 < cLine := hu_of hr
  have nd := sc_l_some.nd
  exact (dss_cons (ds_setLc (own := [("_law_one", 4)]) rfl nd rfl rfl (by rfl) (di_sl ws) (blkOk_by (by rfl)) (fun _ _ _ _ _ => (wnm nd)) (fun _ _ _ _ _ => (dts_one (dt_cmp (po_eq hu) (dp_v (wcall h_l_take hr hG (da_cons wp (da_cons (dp_v de_int) da_nil)))) (dp_v de_int) rfl))) (fun _ _ _ _ _ => wv) (by decide))
      (dss_cons (ds_ret (de_if (dt_cmp po_ge (dp_v (de_callB pc_len rfl Z.z_len boot_len (da_cons wp da_nil))) wp rfl) wv (de_sl wp db_no (db_at wp))))
      dss_nil))
set_option maxHeartbeats 4000000 in
theorem ok_l_parts_by (Z : Zs mg) {g_l_some g_l_take : List D → Out} (h_l_some : Cal P w K mg base k "_law_some" [true, false, false] g_l_some) (h_l_take : Cal P w K mg base k "_law_take" [true, false] g_l_take) (Fn : Fun K "_law_parts_by" "_law_parts_by" s_l_parts_by f fd) (hm : mg "_law_parts_by" = some (.ref f)) : Cal P w K mg base (k + 1) "_law_parts_by" [true, false, false] (fDef [true, false, false] 4 (F_l_parts_by g_l_some g_l_take)) := by
  refine Cal.mk' Fn hm sc_l_parts_by rfl rfl (b_l_parts_by Fn) fun cdv A outer s H E hr hG => ?_
  have hu : A.units + 3 + 100 < cLine := hu_of hr
  have nd := sc_l_parts_by.nd
  exact (dss_cons (wset nd (de_lst da_nil))
      (dss_cons (ds_for PassesOwn.never rfl (di_rng rfl Z.z_range (da_cons (dp_v wv) da_nil)) (wnm nd) (dss_cons (wset nd (de_sl wp (db_at (dp_v (de_bin po_add wp (dp_v (de_bin po_mul (dp_v de_int) wp))))) (db_at (dp_v (de_bin po_add (dp_v (de_bin po_add (dp_v (de_bin po_add wp (dp_v (de_bin po_mul (dp_v de_int) wp)))) (dp_v de_int))) (dp_v (wcall h_l_take hr hG (da_cons wp (da_cons (dp_v de_int) da_nil)))))))))
      (dss_cons (wset nd (de_callT pc_tuple rfl Z.z_tuple PyProof.Rows.boot_tuple (da_cons (dp_v (de_callB (pc_sorted hu) rfl Z.z_sorted PyProof.Rows.boot_sorted (da_cons (dp_v (wcall h_l_some hr hG (da_cons wp (da_cons (dp_v wv) (da_cons (dp_v de_int) da_nil))))) da_nil))) da_nil)))
      (dss_cons (ds_expr (de_app ws (de_tup (da_cons (dp_v (de_ix wp wp)) (da_cons (dp_v (de_callT pc_tuple rfl Z.z_tuple PyProof.Rows.boot_tuple (da_cons wp da_nil))) (da_cons (dp_v wv) da_nil))))))
      dss_nil))))
      (dss_cons (ds_ret (de_callT pc_tuple rfl Z.z_tuple PyProof.Rows.boot_tuple (da_cons (dp_v (de_callB (pc_sorted hu) rfl Z.z_sorted PyProof.Rows.boot_sorted (da_cons wp da_nil))) da_nil)))
      dss_nil)))
set_option maxHeartbeats 4000000 in
theorem ok_l_pipes_by (Z : Zs mg) {g_l_take g_l_of : List D → Out} (h_l_take : Cal P w K mg base k "_law_take" [true, false] g_l_take) (h_l_of : Cal P w K mg base k "_law_of" [true, false] g_l_of) (Fn : Fun K "_law_pipes_by" "_law_pipes_by" s_l_pipes_by f fd) (hm : mg "_law_pipes_by" = some (.ref f)) : Cal P w K mg base (k + 1) "_law_pipes_by" [true, false, false, false] (fDef [true, false, false, false] 8 (F_l_pipes_by g_l_take g_l_of)) := by
  refine Cal.mk' Fn hm sc_l_pipes_by rfl rfl (b_l_pipes_by Fn) fun cdv A outer s H E hr hG => ?_
  have hu : A.units + 3 + 100 < cLine := hu_of hr
  have nd := sc_l_pipes_by.nd
  exact (dss_cons (ds_par rfl nd rfl rfl (by decide) rfl rfl (dv_cons (de_bin po_add (dp_v (de_lc (own := [("_law_one", 11)]) rfl nd (di_sl ws) (blkOk_by (by rfl)) (fun _ _ _ _ _ => (wnm nd)) (fun _ _ _ _ _ => dts_nil) (fun _ _ _ _ _ => (de_ix wp (dp_v de_int))) (by decide))) (dp_v (de_lst (da_cons (dp_v de_str) da_nil)))) (dv_cons (de_lst da_nil) dv_nil)) (by rfl))
      (dss_cons (ds_for PassesOwn.never rfl (di_rng rfl Z.z_range (da_cons (dp_v wv) da_nil)) (wnm nd) (dss_cons (ds_par rfl nd rfl rfl (by decide) rfl rfl (dv_cons (wcall h_l_take hr hG (da_cons wp (da_cons (dp_v (de_callB pc_len rfl Z.z_len boot_len (da_cons wp da_nil))) da_nil))) (dv_cons (wcall h_l_of hr hG (da_cons wp (da_cons (dp_v wv) da_nil))) dv_nil)) (by rfl))
      (dss_cons (wset nd (de_ix wp (dp_v (de_bin po_mod (dp_v (de_bin po_add (dp_v (de_bin po_add wp (dp_v de_int))) (dp_v (wcall h_l_take hr hG (da_cons wp (da_cons (dp_v (de_bin po_sub (dp_v (de_callB pc_len rfl Z.z_len boot_len (da_cons wp da_nil))) (dp_v de_int))) da_nil)))))) (dp_v (de_callB pc_len rfl Z.z_len boot_len (da_cons wp da_nil)))))))
      (dss_cons (wset nd (wcall h_l_take hr hG (da_cons wp (da_cons (dp_v de_int) da_nil))))
      (dss_cons (ds_expr (de_app ws (de_tup (da_cons (dp_v (de_ix wp wp)) (da_cons (dp_v wv) (da_cons (dp_v (de_ix wp (dp_v de_int))) (da_cons (dp_v (wcall h_l_of hr hG (da_cons wp (da_cons (dp_v (de_ix wp (dp_v de_int))) da_nil)))) (da_cons (dp_v wv) (da_cons (dp_v (de_bin po_add wp (dp_v (wcall h_l_take hr hG (da_cons wp (da_cons (dp_v de_int) da_nil)))))) da_nil)))))))))
      dss_nil)))))
      (dss_cons (ds_ret (de_callT pc_tuple rfl Z.z_tuple PyProof.Rows.boot_tuple (da_cons wp da_nil)))
      dss_nil)))
set_option maxHeartbeats 4000000 in
theorem ok_l_deeds_by (Z : Zs mg) {g_l_some g_l_of : List D → Out} (h_l_some : Cal P w K mg base k "_law_some" [true, false, false] g_l_some) (h_l_of : Cal P w K mg base k "_law_of" [true, false] g_l_of) (Fn : Fun K "_law_deeds_by" "_law_deeds_by" s_l_deeds_by f fd) (hm : mg "_law_deeds_by" = some (.ref f)) : Cal P w K mg base (k + 1) "_law_deeds_by" [true, false, false, false] (fDef [true, false, false, false] 4 (F_l_deeds_by g_l_some g_l_of)) := by
  refine Cal.mk' Fn hm sc_l_deeds_by rfl rfl (b_l_deeds_by Fn) fun cdv A outer s H E hr hG => ?_
  have hu : A.units + 3 + 100 < cLine := hu_of hr
  have nd := sc_l_deeds_by.nd
  exact (dss_cons (wset nd (de_lst da_nil))
      (dss_cons (ds_for PassesOwn.never rfl (di_rng rfl Z.z_range (da_cons (dp_v wv) da_nil)) (wnm nd) (dss_cons (wset nd (wcall h_l_some hr hG (da_cons wp (da_cons (dp_v (de_callT pc_list rfl Z.z_list PyProof.Rows.boot_list (da_cons wp da_nil))) (da_cons (dp_v de_int) da_nil)))))
      (dss_cons (ds_expr (de_app ws (de_tup (da_cons (dp_v (de_ix wp wp)) (da_cons (dp_v (de_callT pc_tuple rfl Z.z_tuple PyProof.Rows.boot_tuple (da_cons (dp_v (de_lc (own := [("_law_part", 7)]) rfl nd (di_sl ws) (blkOk_by (by rfl)) (fun _ _ _ _ _ => (wnm nd)) (fun _ _ _ _ _ => dts_nil) (fun _ _ _ _ _ => (de_tup (da_cons (dp_v (de_ix wp (dp_v de_int))) (da_cons (dp_v (wcall h_l_of hr hG (da_cons wp (da_cons (dp_v (de_ix wp (dp_v de_int))) da_nil)))) da_nil)))) (by decide))) da_nil))) da_nil)))))
      dss_nil)))
      (dss_cons (ds_ret (de_callT pc_tuple rfl Z.z_tuple PyProof.Rows.boot_tuple (da_cons (dp_v (de_callB (pc_sorted hu) rfl Z.z_sorted PyProof.Rows.boot_sorted (da_cons wp da_nil))) da_nil)))
      dss_nil)))
set_option maxHeartbeats 4000000 in
theorem ok_l_sensors_by (Z : Zs mg) {g_l_take g_l_some g_l_of : List D → Out} (h_l_take : Cal P w K mg base k "_law_take" [true, false] g_l_take) (h_l_some : Cal P w K mg base k "_law_some" [true, false, false] g_l_some) (h_l_of : Cal P w K mg base k "_law_of" [true, false] g_l_of) (Fn : Fun K "_law_sensors_by" "_law_sensors_by" s_l_sensors_by f fd) (hm : mg "_law_sensors_by" = some (.ref f)) : Cal P w K mg base (k + 1) "_law_sensors_by" [true, false, false, false, false] (fDef [true, false, false, false, false] 4 (F_l_sensors_by g_l_take g_l_some g_l_of)) := by
  refine Cal.mk' Fn hm sc_l_sensors_by rfl rfl (b_l_sensors_by Fn) fun cdv A outer s H E hr hG => ?_
  have hu : A.units + 3 + 100 < cLine := hu_of hr
  have nd := sc_l_sensors_by.nd
  exact (dss_cons (wset nd (de_lst da_nil))
      (dss_cons (ds_for PassesOwn.never rfl (di_rng rfl Z.z_range (da_cons (dp_v wv) da_nil)) (wnm nd) (dss_cons (ds_if (dt_cmp (po_eq hu) (dp_v (wcall h_l_take hr hG (da_cons wp (da_cons (dp_v de_int) da_nil)))) (dp_v de_int) rfl) (dss_cons (ds_expr (de_app ws (de_tup (da_cons (dp_v (de_ix wp wp)) (da_cons (dp_v de_str) (da_cons (dp_v (de_ix (dp_v (wcall h_l_of hr hG (da_cons wp (da_cons (dp_v wv) da_nil)))) (dp_v de_int))) da_nil))))))
      dss_nil) (dss_cons (wset nd (de_callT pc_tuple rfl Z.z_tuple PyProof.Rows.boot_tuple (da_cons (dp_v (wcall h_l_some hr hG (da_cons wp (da_cons (dp_v (de_lc (own := [("_law_one", 8)]) rfl nd (di_sl ws) (blkOk_by (by rfl)) (fun _ _ _ _ _ => (wnm nd)) (fun _ _ _ _ _ => dts_nil) (fun _ _ _ _ _ => (de_ix wp (dp_v de_int))) (by decide))) (da_cons (dp_v de_int) da_nil))))) da_nil)))
      (dss_cons (ds_expr (de_app ws (de_tup (da_cons (dp_v (de_ix wp wp)) (da_cons (dp_v de_str) (da_cons (dp_v wv) (da_cons (dp_v (wcall h_l_take hr hG (da_cons wp (da_cons (dp_v de_int) da_nil)))) da_nil)))))))
      dss_nil)))
      dss_nil))
      (dss_cons (ds_ret (de_callT pc_tuple rfl Z.z_tuple PyProof.Rows.boot_tuple (da_cons (dp_v (de_callB (pc_sorted hu) rfl Z.z_sorted PyProof.Rows.boot_sorted (da_cons wp da_nil))) da_nil)))
      dss_nil)))
set_option maxHeartbeats 4000000 in
theorem ok_l_works (Z : Zs mg) {g_l_parts_by g_l_pipes_by g_l_deeds_by g_l_sensors_by g_l_names g_l_take : List D → Out} (h_l_parts_by : Cal P w K mg base k "_law_parts_by" [true, false, false] g_l_parts_by) (h_l_pipes_by : Cal P w K mg base k "_law_pipes_by" [true, false, false, false] g_l_pipes_by) (h_l_deeds_by : Cal P w K mg base k "_law_deeds_by" [true, false, false, false] g_l_deeds_by) (h_l_sensors_by : Cal P w K mg base k "_law_sensors_by" [true, false, false, false, false] g_l_sensors_by) (h_l_names : Cal P w K mg base k "_law_names" [true, false] g_l_names) (h_l_take : Cal P w K mg base k "_law_take" [true, false] g_l_take) (Fn : Fun K "_law_works" "_law_works" s_l_works f fd) (hm : mg "_law_works" = some (.ref f)) : Cal P w K mg base (k + 1) "_law_works" [true, false, false, false, false] (fDef [true, false, false, false, false] 10 (F_l_works g_l_parts_by g_l_pipes_by g_l_deeds_by g_l_sensors_by g_l_names g_l_take)) := by
  refine Cal.mk' Fn hm sc_l_works rfl rfl (b_l_works Fn) fun cdv A outer s H E hr hG => ?_
  have hu : A.units + 3 + 100 < cLine := hu_of hr
  have nd := sc_l_works.nd
  exact (dss_cons (ds_par rfl nd rfl rfl (by decide) rfl rfl (dv_cons (wcall h_l_names hr hG (da_cons wp (da_cons (dp_v de_int) da_nil))) (dv_cons (de_lst da_nil) dv_nil)) (by rfl))
      (dss_cons (ds_for PassesOwn.never rfl (di_rng rfl Z.z_range (da_cons (dp_v (de_bin po_add (dp_v de_int) (dp_v (wcall h_l_take hr hG (da_cons wp (da_cons (dp_v wv) da_nil)))))) da_nil)) (wnm nd) (dss_cons (wset nd (de_bin po_add (dp_v de_int) (dp_v (wcall h_l_take hr hG (da_cons wp (da_cons (dp_v wv) da_nil))))))
      (dss_cons (wset nd (wcall h_l_take hr hG (da_cons wp (da_cons (dp_v (de_bin po_add wp (dp_v de_int))) da_nil))))
      (dss_cons (ds_expr (de_app ws (de_tup (da_cons (dp_v (de_ix wp wp)) (da_cons (dp_v wv) (da_cons (dp_v wv) (da_cons (dp_v (de_callB (pc_min rfl) rfl Z.z_min PyProof.Rows.boot_min (da_cons wp (da_cons (dp_v (de_bin po_add wp (dp_v (wcall h_l_take hr hG (da_cons wp (da_cons (dp_v de_int) da_nil)))))) da_nil)))) da_nil)))))))
      dss_nil))))
      (dss_cons (wset nd (de_callT pc_tuple rfl Z.z_tuple PyProof.Rows.boot_tuple (da_cons (dp_v (de_callB (pc_sorted hu) rfl Z.z_sorted PyProof.Rows.boot_sorted (da_cons wp da_nil))) da_nil)))
      (dss_cons (wset nd (de_ix (dp_v (de_lst (da_cons (dp_v de_int) (da_cons (dp_v de_int) da_nil)))) (dp_v (de_callT pc_int rfl Z.z_int PyProof.Rows.boot_int (da_cons (dp_v (de_cmp (po_eq hu) (dp_v (de_ix (dp_v (de_ix wp (dp_v de_int))) (dp_v de_int))) (dp_v de_int) rfl)) da_nil)))))
      (dss_cons (wset nd (wcall h_l_parts_by hr hG (da_cons wp (da_cons (dp_v (de_sl wp (db_at wp) (db_at (dp_v (de_bin po_add wp (dp_v de_int)))))) (da_cons (dp_v (de_bin po_add (dp_v de_int) (dp_v (wcall h_l_take hr hG (da_cons wp (da_cons (dp_v wv) da_nil)))))) da_nil)))))
      (dss_cons (wset nd (wcall h_l_pipes_by hr hG (da_cons wp (da_cons (dp_v wv) (da_cons (dp_v wv) (da_cons (dp_v (wcall h_l_take hr hG (da_cons wp (da_cons (dp_v de_int) da_nil)))) da_nil))))))
      (dss_cons (wset nd (wcall h_l_deeds_by hr hG (da_cons wp (da_cons (dp_v (de_sl (dp_v (de_sl wp (db_at (dp_v (de_bin po_add (dp_v (de_bin po_mul wp (dp_v de_int))) (dp_v (de_bin po_div wp (dp_v de_int)))))) db_no)) db_no (db_at (dp_v de_int)))) (da_cons (dp_v wv) (da_cons (dp_v (wcall h_l_take hr hG (da_cons wp (da_cons (dp_v de_int) da_nil)))) da_nil))))))
      (dss_cons (wset nd (wcall h_l_sensors_by hr hG (da_cons wp (da_cons (dp_v (de_sl (dp_v (de_sl wp (db_at (dp_v (de_bin po_add (dp_v (de_bin po_mul wp (dp_v de_int))) (dp_v (de_bin po_div wp (dp_v de_int)))))) db_no)) db_no (db_at (dp_v de_int)))) (da_cons (dp_v wv) (da_cons (dp_v wv) (da_cons (dp_v (wcall h_l_take hr hG (da_cons wp (da_cons (dp_v de_int) da_nil)))) da_nil)))))))
      (dss_cons (ds_ret (de_tup (da_cons (dp_v wv) (da_cons (dp_v wv) (da_cons (dp_v wv) (da_cons (dp_v wv) (da_cons (dp_v wv) (da_cons (dp_v wv) da_nil))))))))
      dss_nil)))))))))
set_option maxHeartbeats 4000000 in
theorem ok_l_claim (Z : Zs mg) {g_l_take g_l_of g_l_claim g_l_some : List D → Out} (h_l_take : Cal P w K mg base k "_law_take" [true, false] g_l_take) (h_l_of : Cal P w K mg base k "_law_of" [true, false] g_l_of) (h_l_claim : Cal P w K mg base k "_law_claim" [true, false, false] g_l_claim) (h_l_some : Cal P w K mg base k "_law_some" [true, false, false] g_l_some) (Fn : Fun K "_law_claim" "_law_claim" s_l_claim f fd) (hm : mg "_law_claim" = some (.ref f)) : Cal P w K mg base (k + 1) "_law_claim" [true, false, false] (fDef [true, false, false] 7 (F_l_claim g_l_take g_l_of g_l_claim g_l_some)) := by
  refine Cal.mk' Fn hm sc_l_claim rfl rfl (b_l_claim Fn) fun cdv A outer s H E hr hG => ?_
  have hu : A.units + 3 + 100 < cLine := hu_of hr
  have nd := sc_l_claim.nd
  exact (dss_cons (wset nd (de_if (dt_cmp po_gt wp (dp_v de_int) rfl) (wcall h_l_take hr hG (da_cons wp (da_cons (dp_v de_int) da_nil))) (wcall h_l_take hr hG (da_cons wp (da_cons (dp_v de_int) da_nil)))))
      (dss_cons (ds_if (dt_cmp (po_eq hu) wp (dp_v de_int) rfl) (dss_cons (wset nd (wcall h_l_take hr hG (da_cons wp (da_cons (dp_v de_int) da_nil))))
      (dss_cons (ds_ret (de_tup (da_cons (dp_v de_str) (da_cons (dp_v (de_callT pc_tuple rfl Z.z_tuple PyProof.Rows.boot_tuple (da_cons (dp_v (wcall h_l_some hr hG (da_cons wp (da_cons (dp_v (de_lc (own := [("_law_one", 9)]) rfl nd (di_ex (de_ix wp (dp_v de_int))) (blkOk_by (by rfl)) (fun _ _ _ _ _ => (wnm nd)) (fun _ _ _ _ _ => dts_nil) (fun _ _ _ _ _ => (de_ix wp (dp_v de_int))) (by decide))) (da_cons (dp_v de_int) da_nil))))) da_nil))) (da_cons (dp_v wv) (da_cons (dp_v (de_bin po_add wp (dp_v (wcall h_l_take hr hG (da_cons wp (da_cons (dp_v de_int) da_nil)))))) da_nil))))))
      dss_nil)) dss_nil)
      (dss_cons (ds_if (dt_cmp (po_eq hu) wp (dp_v de_int) rfl) (dss_cons (wset nd (wcall h_l_of hr hG (da_cons wp (da_cons (dp_v (de_ix wp (dp_v de_int))) da_nil))))
      (dss_cons (ds_ret (de_tup (da_cons (dp_v de_str) (da_cons (dp_v (de_ix wp (dp_v de_int))) (da_cons (dp_v (de_callT pc_tuple rfl Z.z_tuple PyProof.Rows.boot_tuple (da_cons (dp_v (de_callB (pc_sorted hu) rfl Z.z_sorted PyProof.Rows.boot_sorted (da_cons (dp_v (wcall h_l_some hr hG (da_cons wp (da_cons (dp_v (de_callT pc_list rfl Z.z_list PyProof.Rows.boot_list (da_cons (dp_v (de_ix wp (dp_v de_int))) da_nil))) (da_cons (dp_v de_int) da_nil))))) da_nil))) da_nil))) da_nil)))))
      dss_nil)) dss_nil)
      (dss_cons (ds_if (dt_cmp (po_eq hu) wp (dp_v de_int) rfl) (dss_cons (ds_ret (de_tup (da_cons (dp_v de_str) (da_cons (dp_v (wcall h_l_claim hr hG (da_cons wp (da_cons (dp_v wv) (da_cons (dp_v (de_bin po_sub wp (dp_v de_int))) da_nil))))) da_nil))))
      dss_nil) dss_nil)
      (dss_cons (ds_par rfl nd rfl rfl (by decide) rfl rfl (dv_cons (wcall h_l_of hr hG (da_cons wp (da_cons (dp_v (de_lst (da_cons (dp_v de_str) (da_cons (dp_v de_str) da_nil)))) da_nil))) (dv_cons (wcall h_l_take hr hG (da_cons wp (da_cons (dp_v de_int) da_nil))) dv_nil)) (by rfl))
      (dss_cons (ds_ret (de_tup (da_cons (dp_v wv) (da_cons (dp_v (de_callT pc_tuple rfl Z.z_tuple PyProof.Rows.boot_tuple (da_cons (dp_v (de_lc (own := [("_law_turn", 8)]) rfl nd (di_rng rfl Z.z_range (da_cons (dp_v wv) da_nil)) (blkOk_by (by rfl)) (fun _ _ _ _ _ => (wnm nd)) (fun _ _ _ _ _ => dts_nil) (fun _ _ _ _ _ => (wcall h_l_claim hr hG (da_cons wp (da_cons (dp_v wv) (da_cons (dp_v (de_bin po_sub wp (dp_v de_int))) da_nil))))) (by decide))) da_nil))) da_nil))))
      dss_nil))))))
set_option maxHeartbeats 4000000 in
theorem ok_l_rises (Z : Zs mg) (Fn : Fun K "_law_rises" "_law_rises" s_l_rises f fd) (hm : mg "_law_rises" = some (.ref f)) : Cal P w K mg base (k + 1) "_law_rises" [false, false] (fDef [false, false] 1 (F_l_rises)) := by
  refine Cal.mk' Fn hm sc_l_rises rfl rfl (b_l_rises Fn) fun cdv A outer s H E hr hG => ?_
  have hu : A.units + 3 + 100 < cLine := hu_of hr
  have nd := sc_l_rises.nd
  exact (dss_cons (ds_if (DW.t (dw_or (dt_not (dt_val (de_isi wp rfl Z.z_isinstance rfl Z.z_tuple PyProof.Rows.boot_tuple))) (dw_or1 (dt_cmp (po_eq hu) (dp_v (de_callB pc_len rfl Z.z_len boot_len (da_cons wp da_nil))) (dp_v de_int) rfl)))) (dss_cons (ds_ret de_bl)
      dss_nil) dss_nil)
      (dss_cons (ds_if (dt_not (dt_val (de_callB (pc_all rfl) rfl Z.z_all PyProof.Rows.boot_all (da_cons (dp_v (de_lc (own := [("_law_one", 2)]) rfl nd (di_sl ws) (blkOk_by (by rfl)) (fun _ _ _ _ _ => (wnm nd)) (fun _ _ _ _ _ => dts_nil) (fun _ _ _ _ _ => (de_and (de_isi wp rfl Z.z_isinstance rfl Z.z_str PyProof.Rows.boot_str) (de_one (de_cmp (po_in hu) wp wp rfl)))) (by decide))) da_nil)))) (dss_cons (ds_ret de_bl)
      dss_nil) dss_nil)
      (dss_cons (ds_ret (de_cmp (po_eq hu) (dp_v (de_callT pc_list rfl Z.z_list PyProof.Rows.boot_list (da_cons wp da_nil))) (dp_v (de_sortSet rfl hu rfl Z.z_sorted rfl Z.z_set wp)) rfl))
      dss_nil)))
set_option maxHeartbeats 4000000 in
theorem ok_l_is_number (Z : Zs mg) (Fn : Fun K "_law_is_number" "_law_is_number" s_l_is_number f fd) (hm : mg "_law_is_number" = some (.ref f)) : Cal P w K mg base (k + 1) "_law_is_number" [false] (fDef [false] 0 (F_l_is_number)) := by
  refine Cal.mk' Fn hm sc_l_is_number rfl rfl (b_l_is_number Fn) fun cdv A outer s H E hr hG => ?_
  have hu : A.units + 3 + 100 < cLine := hu_of hr
  have nd := sc_l_is_number.nd
  exact (dss_cons (ds_ret (de_and (de_isi wp rfl Z.z_isinstance rfl Z.z_int PyProof.Rows.boot_int) (de_and (de_not (de_isi wp rfl Z.z_isinstance rfl Z.z_bool PyProof.Rows.boot_bool)) (de_one (de_chain po_le po_le de_int wv de_int)))))
      dss_nil)
set_option maxHeartbeats 4000000 in
theorem ok_l_is_claim (Z : Zs mg) {g_l_rises g_l_is_number g_l_is_claim : List D → Out} (h_l_rises : Cal P w K mg base k "_law_rises" [false, false] g_l_rises) (h_l_is_number : Cal P w K mg base k "_law_is_number" [false] g_l_is_number) (h_l_is_claim : Cal P w K mg base k "_law_is_claim" [false, false] g_l_is_claim) (Fn : Fun K "_law_is_claim" "_law_is_claim" s_l_is_claim f fd) (hm : mg "_law_is_claim" = some (.ref f)) : Cal P w K mg base (k + 1) "_law_is_claim" [false, false] (fDef [false, false] 6 (F_l_is_claim g_l_rises g_l_is_number g_l_is_claim)) := by
  refine Cal.mk' Fn hm sc_l_is_claim rfl rfl (b_l_is_claim Fn) fun cdv A outer s H E hr hG => ?_
  have hu : A.units + 3 + 100 < cLine := hu_of hr
  have nd := sc_l_is_claim.nd
  exact (dss_cons (ds_if (DW.t (dw_or (dt_not (dt_val (de_isi wp rfl Z.z_isinstance rfl Z.z_tuple PyProof.Rows.boot_tuple))) (dw_or (dt_cmp po_lt (dp_v (de_callB pc_len rfl Z.z_len boot_len (da_cons wp da_nil))) (dp_v de_int) rfl) (dw_or1 (dt_not (dt_val (de_isi (dp_v (de_ix wp (dp_v de_int))) rfl Z.z_isinstance rfl Z.z_str PyProof.Rows.boot_str))))))) (dss_cons (ds_ret de_bl)
      dss_nil) dss_nil)
      (dss_cons (ds_par rfl nd rfl rfl (by decide) rfl rfl (dv_cons (de_ix wp (dp_v de_int)) (dv_cons (de_callB pc_len rfl Z.z_len boot_len (da_cons wp da_nil)) dv_nil)) (by rfl))
      (dss_cons (ds_if (dt_cmp (po_eq hu) wp (dp_v de_str) rfl) (dss_cons (wset nd (de_and (de_cmp (po_eq hu) wp (dp_v de_int) rfl) (de_one (wcall h_l_rises hr hG (da_cons (dp_v (de_ix wp (dp_v de_int))) (da_cons (dp_v (de_lc (own := [("_law_one", 7)]) rfl nd (di_ex (de_ix wp (dp_v de_int))) (blkOk_by (by rfl)) (fun _ _ _ _ _ => (wnm nd)) (fun _ _ _ _ _ => dts_nil) (fun _ _ _ _ _ => (de_ix wp (dp_v de_int))) (by decide))) da_nil))))))
      (dss_cons (ds_ret (de_and wv (de_and (wcall h_l_is_number hr hG (da_cons (dp_v (de_ix wp (dp_v de_int))) da_nil)) (de_one (wcall h_l_is_number hr hG (da_cons (dp_v (de_ix wp (dp_v de_int))) da_nil))))))
      dss_nil)) dss_nil)
      (dss_cons (ds_if (dt_cmp (po_eq hu) wp (dp_v de_str) rfl) (dss_cons (ds_setLc (own := [("_law_part", 6)]) rfl nd rfl rfl (by rfl) (di_ex (de_ix wp (dp_v de_int))) (blkOk_by (by rfl)) (fun _ _ _ _ _ => (wnm nd)) (fun _ _ _ _ _ => (dts_one (dt_cmp (po_eq hu) (dp_v (de_ix wp (dp_v de_int))) (dp_v (de_ix wp (dp_v de_int))) rfl))) (fun _ _ _ _ _ => (de_ix wp (dp_v de_int))) (by decide))
      (dss_cons (ds_ret (de_and (de_cmp (po_eq hu) wp (dp_v de_int) rfl) (de_and (de_cmp (po_ne hu) wp (dp_v (de_lst da_nil)) rfl) (de_one (wcall h_l_rises hr hG (da_cons (dp_v (de_ix wp (dp_v de_int))) (da_cons (dp_v (de_ix wp (dp_v de_int))) da_nil)))))))
      dss_nil)) dss_nil)
      (dss_cons (ds_if (dt_cmp (po_eq hu) wp (dp_v de_str) rfl) (dss_cons (ds_ret (de_and (de_cmp (po_eq hu) wp (dp_v de_int) rfl) (de_one (wcall h_l_is_claim hr hG (da_cons (dp_v wv) (da_cons (dp_v (de_ix wp (dp_v de_int))) da_nil))))))
      dss_nil) dss_nil)
      (dss_cons (ds_if (DW.t (dw_or (dt_cmp (po_notIn hu) wp (dp_v (de_tup (da_cons (dp_v de_str) (da_cons (dp_v de_str) da_nil)))) rfl) (dw_or (dt_cmp (po_ne hu) wp (dp_v de_int) rfl) (dw_or1 (dt_not (dt_val (de_isi (dp_v (de_ix wp (dp_v de_int))) rfl Z.z_isinstance rfl Z.z_tuple PyProof.Rows.boot_tuple))))))) (dss_cons (ds_ret de_bl)
      dss_nil) dss_nil)
      (dss_cons (ds_ret (de_callB (pc_all rfl) rfl Z.z_all PyProof.Rows.boot_all (da_cons (dp_v (de_lc (own := [("_law_one", 7)]) rfl nd (di_ex (de_ix wp (dp_v de_int))) (blkOk_by (by rfl)) (fun _ _ _ _ _ => (wnm nd)) (fun _ _ _ _ _ => dts_nil) (fun _ _ _ _ _ => (wcall h_l_is_claim hr hG (da_cons (dp_v wv) (da_cons (dp_v wv) da_nil)))) (by decide))) da_nil)))
      dss_nil)))))))
set_option maxHeartbeats 4000000 in
theorem ok_l_bent (Z : Zs mg) {g_l_of g_l_take g_l_bent : List D → Out} (h_l_of : Cal P w K mg base k "_law_of" [true, false] g_l_of) (h_l_take : Cal P w K mg base k "_law_take" [true, false] g_l_take) (h_l_bent : Cal P w K mg base k "_law_bent" [true, false, false] g_l_bent) (Fn : Fun K "_law_bent" "_law_bent" s_l_bent f fd) (hm : mg "_law_bent" = some (.ref f)) : Cal P w K mg base (k + 1) "_law_bent" [true, false, false] (fDef [true, false, false] 4 (F_l_bent g_l_of g_l_take g_l_bent)) := by
  refine Cal.mk' Fn hm sc_l_bent rfl rfl (b_l_bent Fn) fun cdv A outer s H E hr hG => ?_
  have hu : A.units + 3 + 100 < cLine := hu_of hr
  have nd := sc_l_bent.nd
  exact (dss_cons (wset nd (de_lst (da_cons (dp_v de_non) (da_cons (dp_v de_bl) (da_cons (dp_v de_bl) (da_cons (dp_v de_int) (da_cons (dp_v de_int) (da_cons (dp_v de_int) (da_cons (dp_v (de_un po_neg (dp_v de_int))) (da_cons (dp_v de_str) (da_cons (dp_v de_str) (da_cons (dp_v de_str) (da_cons (dp_v de_str) (da_cons (dp_v (de_tup da_nil)) (da_cons (dp_v (de_lst da_nil)) (da_cons (dp_v (de_tup (da_cons (dp_v de_int) da_nil))) (da_cons (dp_v (de_tup (da_cons (dp_v de_str) (da_cons (dp_v de_str) da_nil)))) (da_cons (dp_v (de_tup (da_cons (dp_v (de_tup (da_cons (dp_v de_str) (da_cons (dp_v (de_tup da_nil)) da_nil)))) da_nil))) da_nil))))))))))))))))))
      (dss_cons (ds_if (DW.t (dw_or (dt_not (dt_val (de_isi2 wp rfl Z.z_isinstance rfl Z.z_tuple PyProof.Rows.boot_tuple rfl Z.z_list PyProof.Rows.boot_list))) (dw_or (dt_cmp (po_eq hu) (dp_v (de_callB pc_len rfl Z.z_len boot_len (da_cons wp da_nil))) (dp_v de_int) rfl) (dw_or (dt_cmp (po_eq hu) wp (dp_v de_int) rfl) (dw_or1 (dt_cmp (po_eq hu) (dp_v (wcall h_l_take hr hG (da_cons wp (da_cons (dp_v de_int) da_nil)))) (dp_v de_int) rfl)))))) (dss_cons (ds_ret (wcall h_l_of hr hG (da_cons wp (da_cons (dp_v wv) da_nil))))
      dss_nil) dss_nil)
      (dss_cons (ds_par3 rfl nd rfl rfl rfl (by decide) (by decide) (by decide) rfl rfl rfl (dv_cons (de_callT pc_list rfl Z.z_list PyProof.Rows.boot_list (da_cons wp da_nil)) (dv_cons (wcall h_l_take hr hG (da_cons wp (da_cons (dp_v (de_callB pc_len rfl Z.z_len boot_len (da_cons wp da_nil))) da_nil))) (dv_cons (wcall h_l_take hr hG (da_cons wp (da_cons (dp_v de_int) da_nil))) dv_nil))) (by rfl))
      (dss_cons (ds_if (dt_cmp po_lt wp (dp_v de_int) rfl) (dss_cons (ds_put ws wv (wcall h_l_bent hr hG (da_cons wp (da_cons (dp_v (de_ix wp wp)) (da_cons (dp_v (de_bin po_sub wp (dp_v de_int))) da_nil)))))
      dss_nil) (dss_cons (ds_if (dt_cmp (po_eq hu) wp (dp_v de_int) rfl) (dss_cons (wset nd (de_bin po_add (dp_v (de_sl wp db_no (db_at wp))) (dp_v (de_sl wp (db_at (dp_v (de_bin po_add wp (dp_v de_int)))) db_no))))
      dss_nil) (dss_cons (ds_if (dt_cmp (po_eq hu) wp (dp_v de_int) rfl) (dss_cons (wset nd (de_bin po_add (dp_v (de_sl wp db_no (db_at (dp_v (de_bin po_add wp (dp_v de_int)))))) (dp_v (de_sl wp (db_at wp) db_no))))
      dss_nil) (dss_cons (ds_if (dt_cmp (po_eq hu) wp (dp_v de_int) rfl) (dss_cons (wset nd (de_rev wp))
      dss_nil) dss_nil)
      dss_nil))
      dss_nil))
      dss_nil))
      (dss_cons (ds_ret (de_if (dt_cmp (po_eq hu) wp (dp_v de_int) rfl) wv (de_callT pc_tuple rfl Z.z_tuple PyProof.Rows.boot_tuple (da_cons wp da_nil))))
      dss_nil)))))
set_option maxHeartbeats 4000000 in
theorem ok_l_right (Z : Zs mg) {g_l_names g_l_works g_l_claim g_l_is_claim g_c_is_claim g_l_same g_l_bent : List D → Out} (h_l_names : Cal P w K mg base k "_law_names" [true, false] g_l_names) (h_l_works : Cal P w K mg base k "_law_works" [true, false, false, false, false] g_l_works) (h_l_claim : Cal P w K mg base k "_law_claim" [true, false, false] g_l_claim) (h_l_is_claim : Cal P w K mg base k "_law_is_claim" [false, false] g_l_is_claim) (h_c_is_claim : Cal P w K mg base k "is_claim" [false, false] g_c_is_claim) (h_l_same : Cal P w K mg base k "_law_same" [false, false] g_l_same) (h_l_bent : Cal P w K mg base k "_law_bent" [true, false, false] g_l_bent) (Fn : Fun K "_law_right" "_law_right" s_l_right f fd) (hm : mg "_law_right" = some (.ref f)) : Cal P w K mg base (k + 1) "_law_right" [true] (fDef [true] 11 (F_l_right g_l_names g_l_works g_l_claim g_l_is_claim g_c_is_claim g_l_same g_l_bent)) := by
  refine Cal.mk' Fn hm sc_l_right rfl rfl (b_l_right Fn) fun cdv A outer s H E hr hG => ?_
  have hu : A.units + 3 + 100 < cLine := hu_of hr
  have nd := sc_l_right.nd
  exact (dss_cons (wset nd (wcall h_l_names hr hG (da_cons wp (da_cons (dp_v de_int) da_nil))))
      (dss_cons (ds_par rfl nd rfl rfl (by decide) rfl rfl (dv_cons (wcall h_l_works hr hG (da_cons wp (da_cons (dp_v (de_ix wp (dp_v de_int))) (da_cons (dp_v de_int) (da_cons (dp_v de_int) (da_cons (dp_v de_int) da_nil)))))) (dv_cons (wcall h_l_works hr hG (da_cons wp (da_cons (dp_v (de_ix wp (dp_v de_int))) (da_cons (dp_v de_int) (da_cons (dp_v de_int) (da_cons (dp_v de_int) da_nil)))))) dv_nil)) (by rfl))
      (dss_cons (wset nd (de_lst (da_cons (dp_v de_non) (da_cons (dp_v (de_tup da_nil)) (da_cons (dp_v de_str) (da_cons (dp_v (de_tup (da_cons (dp_v de_str) da_nil))) (da_cons (dp_v (de_tup (da_cons (dp_v de_str) (da_cons (dp_v (de_tup da_nil)) da_nil)))) (da_cons (dp_v (de_tup (da_cons (dp_v de_str) (da_cons (dp_v (de_tup da_nil)) da_nil)))) (da_cons (dp_v (de_lst (da_cons (dp_v de_str) (da_cons (dp_v (de_tup da_nil)) da_nil)))) (da_cons (dp_v (de_tup (da_cons (dp_v de_str) (da_cons (dp_v (de_tup (da_cons (dp_v de_str) (da_cons (dp_v (de_tup da_nil)) da_nil)))) da_nil)))) (da_cons (dp_v (de_tup (da_cons (dp_v de_str) (da_cons (dp_v (de_lst da_nil)) da_nil)))) da_nil)))))))))))
      (dss_cons (wset nd (de_bin po_add wp (dp_v (de_lst (da_cons (dp_v (de_tup (da_cons (dp_v de_str) (da_cons (dp_v (de_tup da_nil)) (da_cons (dp_v de_int) (da_cons (dp_v de_int) da_nil)))))) (da_cons (dp_v (de_tup (da_cons (dp_v de_str) (da_cons (dp_v (de_tup (da_cons (dp_v (de_ix (dp_v (de_ix (dp_v (de_ix wp (dp_v de_int))) (dp_v de_int))) (dp_v de_int))) da_nil))) (da_cons (dp_v de_int) (da_cons (dp_v de_int) da_nil)))))) (da_cons (dp_v (de_tup (da_cons (dp_v de_str) (da_cons (dp_v (de_tup (da_cons (dp_v (de_ix (dp_v (de_ix (dp_v (de_ix wp (dp_v de_int))) (dp_v de_int))) (dp_v de_int))) da_nil))) (da_cons (dp_v de_int) (da_cons (dp_v de_int) da_nil)))))) da_nil)))))))
      (dss_cons (ds_for PassesOwn.never rfl (di_rng rfl Z.z_range (da_cons (dp_v de_int) da_nil)) (wnm nd) (dss_cons (wset nd (wcall h_l_claim hr hG (da_cons wp (da_cons (dp_v wv) (da_cons (dp_v de_int) da_nil)))))
      (dss_cons (wset nd (de_bin po_add (dp_v (de_bin po_add wp (dp_v (de_lst (da_cons (dp_v wv) (da_cons (dp_v (wcall h_l_claim hr hG (da_cons wp (da_cons (dp_v wv) (da_cons (dp_v de_int) da_nil))))) da_nil)))))) (dp_v (de_lc (own := [("_law_again", 11)]) rfl nd (di_rng rfl Z.z_range (da_cons (dp_v de_int) da_nil)) (blkOk_by (by rfl)) (fun _ _ _ _ _ => (wnm nd)) (fun _ _ _ _ _ => dts_nil) (fun _ _ _ _ _ => (wcall h_l_bent hr hG (da_cons wp (da_cons (dp_v wv) (da_cons (dp_v de_int) da_nil))))) (by decide)))))
      dss_nil)))
      (dss_cons (ds_for PassesOwn.never rfl (di_sl ws) (wnm nd) (dss_cons (ds_par rfl nd rfl rfl (by decide) rfl rfl (dv_cons (de_callB (pc_reprX hu hG) rfl Z.z_repr PyProof.Rows.boot_repr (da_cons wp da_nil)) (dv_cons (wcall h_l_is_claim hr hG (da_cons (dp_v wv) (da_cons (dp_v wv) da_nil))) dv_nil)) (by rfl))
      (dss_cons (wset nd (de_lst (da_cons (dp_v (wcall h_c_is_claim hr hG (da_cons (dp_v wv) (da_cons (dp_v wv) da_nil)))) (da_cons (dp_v (wcall h_c_is_claim hr hG (da_cons (dp_v wv) (da_cons (dp_v wv) da_nil)))) da_nil))))
      (dss_cons (ds_if (DW.t (dw_or (dt_not (dt_val (wcall h_l_same hr hG (da_cons (dp_v wv) (da_cons (dp_v (de_lst (da_cons (dp_v wv) (da_cons (dp_v wv) da_nil)))) da_nil))))) (dw_or1 (dt_cmp (po_ne hu) (dp_v (de_callB (pc_reprX hu hG) rfl Z.z_repr PyProof.Rows.boot_repr (da_cons wp da_nil))) wp rfl)))) (dss_cons (ds_ret de_bl)
      dss_nil) dss_nil)
      (dss_cons (ds_if (dt_not (dt_val (wcall h_l_same hr hG (da_cons (dp_v (wcall h_c_is_claim hr hG (da_cons (dp_v wv) (da_cons (dp_v wv) da_nil)))) (da_cons (dp_v (wcall h_l_is_claim hr hG (da_cons (dp_v wv) (da_cons (dp_v wv) da_nil)))) da_nil))))) (dss_cons (ds_ret de_bl)
      dss_nil) dss_nil)
      dss_nil)))))
      (dss_cons (ds_ret de_bl)
      dss_nil)))))))
set_option maxHeartbeats 4000000 in
theorem ok_c_law (Z : Zs mg) {g_l_folded g_l_right g_l_box : List D → Out} (h_l_folded : Cal P w K mg base k "_law_folded" [false, false] g_l_folded) (h_l_right : Cal P w K mg base k "_law_right" [true] g_l_right) (h_l_box : Cal P w K mg base k "_law_box" [false, false] g_l_box) (Fn : Fun K "law" "law" s_c_law f fd) (hm : mg "law" = some (.ref f)) : Cal P w K mg base (k + 1) "law" [false] (fDef [false] 2 (F_c_law g_l_folded g_l_right g_l_box)) := by
  refine Cal.mk' Fn hm sc_c_law rfl rfl (b_c_law Fn) fun cdv A outer s H E hr hG => ?_
  have hu : A.units + 3 + 100 < cLine := hu_of hr
  have nd := sc_c_law.nd
  exact (dss_cons (wset nd (wcall h_l_folded hr hG (da_cons (dp_v wv) (da_cons (dp_v de_int) da_nil))))
      (dss_cons (ds_ret (de_callB (pc_all rfl) rfl Z.z_all PyProof.Rows.boot_all (da_cons (dp_v (de_lc (own := [("_law_k", 2)]) rfl nd (di_rng rfl Z.z_range (da_cons (dp_v (de_callB pc_len rfl Z.z_len boot_len (da_cons wp da_nil))) da_nil)) (blkOk_by (by rfl)) (fun _ _ _ _ _ => (wnm nd)) (fun _ _ _ _ _ => dts_nil) (fun _ _ _ _ _ => (wcallT h_l_right hr hG (wcall h_l_box hr hG (da_cons (dp_v wv) (da_cons (dp_v wv) da_nil))))) (by decide))) da_nil)))
      dss_nil))
end
theorem all {P : Program} {w : World} {K : PySem.W.Frag} {mg : Str → Option Value} {base : Heap} (Z : Zs mg)
    (d_c_is_within : Df K mg "is_within" s_c_is_within)
    (d_c_boxes_of : Df K mg "boxes_of" s_c_boxes_of)
    (d_c_parts_of : Df K mg "parts_of" s_c_parts_of)
    (d_c_part_place : Df K mg "part_place" s_c_part_place)
    (d_c_modes_of : Df K mg "modes_of" s_c_modes_of)
    (d_c_are_some_of : Df K mg "are_some_of" s_c_are_some_of)
    (d_c_is_sum : Df K mg "is_sum" s_c_is_sum)
    (d_c_is_mode : Df K mg "is_mode" s_c_is_mode)
    (d_c_is_not : Df K mg "is_not" s_c_is_not)
    (d_c_are_claims : Df K mg "are_claims" s_c_are_claims)
    (d_c_is_claim : Df K mg "is_claim" s_c_is_claim)
    (d_l_box : Df K mg "_law_box" s_l_box)
    (d_l_take : Df K mg "_law_take" s_l_take)
    (d_l_folded : Df K mg "_law_folded" s_l_folded)
    (d_l_same : Df K mg "_law_same" s_l_same)
    (d_l_of : Df K mg "_law_of" s_l_of)
    (d_l_names : Df K mg "_law_names" s_l_names)
    (d_l_some : Df K mg "_law_some" s_l_some)
    (d_l_parts_by : Df K mg "_law_parts_by" s_l_parts_by)
    (d_l_pipes_by : Df K mg "_law_pipes_by" s_l_pipes_by)
    (d_l_deeds_by : Df K mg "_law_deeds_by" s_l_deeds_by)
    (d_l_sensors_by : Df K mg "_law_sensors_by" s_l_sensors_by)
    (d_l_works : Df K mg "_law_works" s_l_works)
    (d_l_claim : Df K mg "_law_claim" s_l_claim)
    (d_l_rises : Df K mg "_law_rises" s_l_rises)
    (d_l_is_number : Df K mg "_law_is_number" s_l_is_number)
    (d_l_is_claim : Df K mg "_law_is_claim" s_l_is_claim)
    (d_l_bent : Df K mg "_law_bent" s_l_bent)
    (d_l_right : Df K mg "_law_right" s_l_right)
    (d_c_law : Df K mg "law" s_c_law)
    {a_CLAIM_FORMS : Addr} (t_CLAIM_FORMS : mg "CLAIM_FORMS" = some (.ref a_CLAIM_FORMS) ∧ ∀ z f, T_CLAIM_FORMS.lookup z = some f → ∃ a, mg f = some (.ref a) ∧ KDct K w a_CLAIM_FORMS z (.ref a)) (i_CLAIM_FORMS : TabIn K w a_CLAIM_FORMS ["sum", "mode", "not", "all", "any"])
    : Cal P w K mg base 32 "law" [false] G_c_law := by
  obtain ⟨f_c_is_within, fd_c_is_within, F_c_is_within, m_c_is_within⟩ := d_c_is_within
  obtain ⟨f_c_boxes_of, fd_c_boxes_of, F_c_boxes_of, m_c_boxes_of⟩ := d_c_boxes_of
  obtain ⟨f_c_parts_of, fd_c_parts_of, F_c_parts_of, m_c_parts_of⟩ := d_c_parts_of
  obtain ⟨f_c_part_place, fd_c_part_place, F_c_part_place, m_c_part_place⟩ := d_c_part_place
  obtain ⟨f_c_modes_of, fd_c_modes_of, F_c_modes_of, m_c_modes_of⟩ := d_c_modes_of
  obtain ⟨f_c_are_some_of, fd_c_are_some_of, F_c_are_some_of, m_c_are_some_of⟩ := d_c_are_some_of
  obtain ⟨f_c_is_sum, fd_c_is_sum, F_c_is_sum, m_c_is_sum⟩ := d_c_is_sum
  obtain ⟨f_c_is_mode, fd_c_is_mode, F_c_is_mode, m_c_is_mode⟩ := d_c_is_mode
  obtain ⟨f_c_is_not, fd_c_is_not, F_c_is_not, m_c_is_not⟩ := d_c_is_not
  obtain ⟨f_c_are_claims, fd_c_are_claims, F_c_are_claims, m_c_are_claims⟩ := d_c_are_claims
  obtain ⟨f_c_is_claim, fd_c_is_claim, F_c_is_claim, m_c_is_claim⟩ := d_c_is_claim
  obtain ⟨f_l_box, fd_l_box, F_l_box, m_l_box⟩ := d_l_box
  obtain ⟨f_l_take, fd_l_take, F_l_take, m_l_take⟩ := d_l_take
  obtain ⟨f_l_folded, fd_l_folded, F_l_folded, m_l_folded⟩ := d_l_folded
  obtain ⟨f_l_same, fd_l_same, F_l_same, m_l_same⟩ := d_l_same
  obtain ⟨f_l_of, fd_l_of, F_l_of, m_l_of⟩ := d_l_of
  obtain ⟨f_l_names, fd_l_names, F_l_names, m_l_names⟩ := d_l_names
  obtain ⟨f_l_some, fd_l_some, F_l_some, m_l_some⟩ := d_l_some
  obtain ⟨f_l_parts_by, fd_l_parts_by, F_l_parts_by, m_l_parts_by⟩ := d_l_parts_by
  obtain ⟨f_l_pipes_by, fd_l_pipes_by, F_l_pipes_by, m_l_pipes_by⟩ := d_l_pipes_by
  obtain ⟨f_l_deeds_by, fd_l_deeds_by, F_l_deeds_by, m_l_deeds_by⟩ := d_l_deeds_by
  obtain ⟨f_l_sensors_by, fd_l_sensors_by, F_l_sensors_by, m_l_sensors_by⟩ := d_l_sensors_by
  obtain ⟨f_l_works, fd_l_works, F_l_works, m_l_works⟩ := d_l_works
  obtain ⟨f_l_claim, fd_l_claim, F_l_claim, m_l_claim⟩ := d_l_claim
  obtain ⟨f_l_rises, fd_l_rises, F_l_rises, m_l_rises⟩ := d_l_rises
  obtain ⟨f_l_is_number, fd_l_is_number, F_l_is_number, m_l_is_number⟩ := d_l_is_number
  obtain ⟨f_l_is_claim, fd_l_is_claim, F_l_is_claim, m_l_is_claim⟩ := d_l_is_claim
  obtain ⟨f_l_bent, fd_l_bent, F_l_bent, m_l_bent⟩ := d_l_bent
  obtain ⟨f_l_right, fd_l_right, F_l_right, m_l_right⟩ := d_l_right
  obtain ⟨f_c_law, fd_c_law, F_c_law, m_c_law⟩ := d_c_law
  have x_c_is_within : Cal P w K mg base 1 "is_within" [false, false, false] G_c_is_within := ok_c_is_within (k := 0) Z F_c_is_within m_c_is_within
  have x_c_boxes_of : Cal P w K mg base 1 "boxes_of" [false] G_c_boxes_of := ok_c_boxes_of (k := 0) Z F_c_boxes_of m_c_boxes_of
  have x_c_parts_of : Cal P w K mg base 1 "parts_of" [false] G_c_parts_of := ok_c_parts_of (k := 0) Z F_c_parts_of m_c_parts_of
  have x_c_part_place : Cal P w K mg base 2 "part_place" [false, false] G_c_part_place := ok_c_part_place (k := 1) Z (x_c_parts_of.mono (by omega)) F_c_part_place m_c_part_place
  have x_c_modes_of : Cal P w K mg base 3 "modes_of" [false, false] G_c_modes_of := ok_c_modes_of (k := 2) Z (x_c_part_place.mono (by omega)) F_c_modes_of m_c_modes_of
  have x_c_are_some_of : Cal P w K mg base 1 "are_some_of" [false, false] G_c_are_some_of := ok_c_are_some_of (k := 0) Z F_c_are_some_of m_c_are_some_of
  have x_c_is_sum : Cal P w K mg base 2 "is_sum" [false, false] G_c_is_sum := ok_c_is_sum (k := 1) Z (x_c_are_some_of.mono (by omega)) (x_c_is_within.mono (by omega)) (x_c_boxes_of.mono (by omega)) F_c_is_sum m_c_is_sum
  have x_c_is_mode : Cal P w K mg base 4 "is_mode" [false, false] G_c_is_mode := ok_c_is_mode (k := 3) Z (x_c_are_some_of.mono (by omega)) (x_c_modes_of.mono (by omega)) (x_c_parts_of.mono (by omega)) F_c_is_mode m_c_is_mode
  have r_c_are_claims : ∀ n, Cal P w K mg base (4 + n) "are_claims" [false, false] (G_c_are_claims n) ∧ Cal P w K mg base (4 + n) "is_claim" [false, false] (G_c_is_claim n) ∧ Cal P w K mg base (4 + n) "is_not" [false, false] (G_c_is_not n) := by
    intro n
    induction n with
    | zero => exact ⟨Cal.none m_c_are_claims F_c_are_claims.kp (b_c_are_claims F_c_are_claims),
        Cal.none m_c_is_claim F_c_is_claim.kp (b_c_is_claim F_c_is_claim),
        Cal.none m_c_is_not F_c_is_not.kp (b_c_is_not F_c_is_not)⟩
    | succ n ih =>
      obtain ⟨i_c_are_claims, i_c_is_claim, i_c_is_not⟩ := ih
      exact ⟨ok_c_are_claims (k := 4 + n) Z i_c_is_claim F_c_are_claims m_c_are_claims,
        ok_c_is_claim (k := 4 + n) Z (look_cons (x_c_is_sum.mono (by omega)) (look_cons (x_c_is_mode.mono (by omega)) (look_cons i_c_is_not (look_cons i_c_are_claims look_nil)))) t_CLAIM_FORMS i_CLAIM_FORMS F_c_is_claim m_c_is_claim,
        ok_c_is_not (k := 4 + n) Z i_c_is_claim F_c_is_not m_c_is_not⟩
  have x_c_are_claims : Cal P w K mg base 30 "are_claims" [false, false] (G_c_are_claims 26) := (r_c_are_claims 26).1
  have x_c_is_claim : Cal P w K mg base 30 "is_claim" [false, false] (G_c_is_claim 26) := (r_c_are_claims 26).2.1
  have x_c_is_not : Cal P w K mg base 30 "is_not" [false, false] (G_c_is_not 26) := (r_c_are_claims 26).2.2
  have x_l_box : Cal P w K mg base 1 "_law_box" [false, false] G_l_box := ok_l_box (k := 0) Z F_l_box m_l_box
  have r_l_take : ∀ n, Cal P w K mg base (0 + n) "_law_take" [true, false] (G_l_take n) := by
    intro n
    induction n with
    | zero => exact Cal.none m_l_take F_l_take.kp (b_l_take F_l_take)
    | succ n ih =>
      have i_l_take := ih
      exact ok_l_take (k := 0 + n) Z i_l_take F_l_take m_l_take
  have x_l_take : Cal P w K mg base 3 "_law_take" [true, false] (G_l_take 3) := (r_l_take 3)
  have x_l_folded : Cal P w K mg base 1 "_law_folded" [false, false] G_l_folded := ok_l_folded (k := 0) Z F_l_folded m_l_folded
  have r_l_same : ∀ n, Cal P w K mg base (0 + n) "_law_same" [false, false] (G_l_same n) := by
    intro n
    induction n with
    | zero => exact Cal.none m_l_same F_l_same.kp (b_l_same F_l_same)
    | succ n ih =>
      have i_l_same := ih
      exact ok_l_same (k := 0 + n) Z i_l_same F_l_same m_l_same
  have x_l_same : Cal P w K mg base 4 "_law_same" [false, false] (G_l_same 4) := (r_l_same 4)
  have x_l_of : Cal P w K mg base 4 "_law_of" [true, false] G_l_of := ok_l_of (k := 3) Z (x_l_take.mono (by omega)) F_l_of m_l_of
  have x_l_names : Cal P w K mg base 4 "_law_names" [true, false] G_l_names := ok_l_names (k := 3) Z (x_l_take.mono (by omega)) F_l_names m_l_names
  have x_l_some : Cal P w K mg base 4 "_law_some" [true, false, false] G_l_some := ok_l_some (k := 3) Z (x_l_take.mono (by omega)) F_l_some m_l_some
  have x_l_parts_by : Cal P w K mg base 5 "_law_parts_by" [true, false, false] G_l_parts_by := ok_l_parts_by (k := 4) Z (x_l_some.mono (by omega)) (x_l_take.mono (by omega)) F_l_parts_by m_l_parts_by
  have x_l_pipes_by : Cal P w K mg base 5 "_law_pipes_by" [true, false, false, false] G_l_pipes_by := ok_l_pipes_by (k := 4) Z (x_l_take.mono (by omega)) (x_l_of.mono (by omega)) F_l_pipes_by m_l_pipes_by
  have x_l_deeds_by : Cal P w K mg base 5 "_law_deeds_by" [true, false, false, false] G_l_deeds_by := ok_l_deeds_by (k := 4) Z (x_l_some.mono (by omega)) (x_l_of.mono (by omega)) F_l_deeds_by m_l_deeds_by
  have x_l_sensors_by : Cal P w K mg base 5 "_law_sensors_by" [true, false, false, false, false] G_l_sensors_by := ok_l_sensors_by (k := 4) Z (x_l_take.mono (by omega)) (x_l_some.mono (by omega)) (x_l_of.mono (by omega)) F_l_sensors_by m_l_sensors_by
  have x_l_works : Cal P w K mg base 6 "_law_works" [true, false, false, false, false] G_l_works := ok_l_works (k := 5) Z (x_l_parts_by.mono (by omega)) (x_l_pipes_by.mono (by omega)) (x_l_deeds_by.mono (by omega)) (x_l_sensors_by.mono (by omega)) (x_l_names.mono (by omega)) (x_l_take.mono (by omega)) F_l_works m_l_works
  have r_l_claim : ∀ n, Cal P w K mg base (4 + n) "_law_claim" [true, false, false] (G_l_claim n) := by
    intro n
    induction n with
    | zero => exact Cal.none m_l_claim F_l_claim.kp (b_l_claim F_l_claim)
    | succ n ih =>
      have i_l_claim := ih
      exact ok_l_claim (k := 4 + n) Z (x_l_take.mono (by omega)) (x_l_of.mono (by omega)) i_l_claim (x_l_some.mono (by omega)) F_l_claim m_l_claim
  have x_l_claim : Cal P w K mg base 10 "_law_claim" [true, false, false] (G_l_claim 6) := (r_l_claim 6)
  have x_l_rises : Cal P w K mg base 1 "_law_rises" [false, false] G_l_rises := ok_l_rises (k := 0) Z F_l_rises m_l_rises
  have x_l_is_number : Cal P w K mg base 1 "_law_is_number" [false] G_l_is_number := ok_l_is_number (k := 0) Z F_l_is_number m_l_is_number
  have r_l_is_claim : ∀ n, Cal P w K mg base (1 + n) "_law_is_claim" [false, false] (G_l_is_claim n) := by
    intro n
    induction n with
    | zero => exact Cal.none m_l_is_claim F_l_is_claim.kp (b_l_is_claim F_l_is_claim)
    | succ n ih =>
      have i_l_is_claim := ih
      exact ok_l_is_claim (k := 1 + n) Z (x_l_rises.mono (by omega)) (x_l_is_number.mono (by omega)) i_l_is_claim F_l_is_claim m_l_is_claim
  have x_l_is_claim : Cal P w K mg base 15 "_law_is_claim" [false, false] (G_l_is_claim 14) := (r_l_is_claim 14)
  have r_l_bent : ∀ n, Cal P w K mg base (4 + n) "_law_bent" [true, false, false] (G_l_bent n) := by
    intro n
    induction n with
    | zero => exact Cal.none m_l_bent F_l_bent.kp (b_l_bent F_l_bent)
    | succ n ih =>
      have i_l_bent := ih
      exact ok_l_bent (k := 4 + n) Z (x_l_of.mono (by omega)) (x_l_take.mono (by omega)) i_l_bent F_l_bent m_l_bent
  have x_l_bent : Cal P w K mg base 13 "_law_bent" [true, false, false] (G_l_bent 9) := (r_l_bent 9)
  have x_l_right : Cal P w K mg base 31 "_law_right" [true] G_l_right := ok_l_right (k := 30) Z (x_l_names.mono (by omega)) (x_l_works.mono (by omega)) (x_l_claim.mono (by omega)) (x_l_is_claim.mono (by omega)) (x_c_is_claim.mono (by omega)) (x_l_same.mono (by omega)) (x_l_bent.mono (by omega)) F_l_right m_l_right
  have x_c_law : Cal P w K mg base 32 "law" [false] G_c_law := ok_c_law (k := 31) Z (x_l_folded.mono (by omega)) (x_l_right.mono (by omega)) (x_l_box.mono (by omega)) F_c_law m_c_law
  exact x_c_law
/-! ### the head -/
def fa : List He.Fa := [.glo "is_within", .glo "boxes_of", .glo "parts_of", .glo "part_place", .glo "modes_of", .glo "are_some_of", .glo "is_sum", .glo "is_mode", .glo "is_not", .glo "are_claims", .glo "is_claim", .glo "_law_box", .glo "_law_take", .glo "_law_folded", .glo "_law_same", .glo "_law_of", .glo "_law_names", .glo "_law_some", .glo "_law_parts_by", .glo "_law_pipes_by", .glo "_law_deeds_by", .glo "_law_sensors_by", .glo "_law_works", .glo "_law_claim", .glo "_law_rises", .glo "_law_is_number", .glo "_law_is_claim", .glo "_law_bent", .glo "_law_right", .glo "law", .glo "CLAIM_FORMS", .free "abs", .free "all", .free "bool", .free "divmod", .free "enumerate", .free "int", .free "isinstance", .free "len", .free "list", .free "min", .free "range", .free "repr", .free "set", .free "sorted", .free "str", .free "tuple", .free "zip", .int "MOST_SUM" 40]
def d_c_is_within : He.DefD := ⟨("is_within", none), "is_within", "is_within", defArgs s_c_is_within, defBody s_c_is_within, defScope s_c_is_within, [], []⟩
def d_c_boxes_of : He.DefD := ⟨("boxes_of", none), "boxes_of", "boxes_of", defArgs s_c_boxes_of, defBody s_c_boxes_of, defScope s_c_boxes_of, [], []⟩
def d_c_parts_of : He.DefD := ⟨("parts_of", none), "parts_of", "parts_of", defArgs s_c_parts_of, defBody s_c_parts_of, defScope s_c_parts_of, [], []⟩
def d_c_part_place : He.DefD := ⟨("part_place", none), "part_place", "part_place", defArgs s_c_part_place, defBody s_c_part_place, defScope s_c_part_place, [], []⟩
def d_c_modes_of : He.DefD := ⟨("modes_of", none), "modes_of", "modes_of", defArgs s_c_modes_of, defBody s_c_modes_of, defScope s_c_modes_of, [], []⟩
def d_c_are_some_of : He.DefD := ⟨("are_some_of", none), "are_some_of", "are_some_of", defArgs s_c_are_some_of, defBody s_c_are_some_of, defScope s_c_are_some_of, [], []⟩
def d_c_is_sum : He.DefD := ⟨("is_sum", none), "is_sum", "is_sum", defArgs s_c_is_sum, defBody s_c_is_sum, defScope s_c_is_sum, [], []⟩
def d_c_is_mode : He.DefD := ⟨("is_mode", none), "is_mode", "is_mode", defArgs s_c_is_mode, defBody s_c_is_mode, defScope s_c_is_mode, [], []⟩
def d_c_is_not : He.DefD := ⟨("is_not", none), "is_not", "is_not", defArgs s_c_is_not, defBody s_c_is_not, defScope s_c_is_not, [], []⟩
def d_c_are_claims : He.DefD := ⟨("are_claims", none), "are_claims", "are_claims", defArgs s_c_are_claims, defBody s_c_are_claims, defScope s_c_are_claims, [], []⟩
def d_c_is_claim : He.DefD := ⟨("is_claim", none), "is_claim", "is_claim", defArgs s_c_is_claim, defBody s_c_is_claim, defScope s_c_is_claim, [], []⟩
def d_l_box : He.DefD := ⟨("_law_box", none), "_law_box", "_law_box", defArgs s_l_box, defBody s_l_box, defScope s_l_box, [], []⟩
def d_l_take : He.DefD := ⟨("_law_take", none), "_law_take", "_law_take", defArgs s_l_take, defBody s_l_take, defScope s_l_take, [], []⟩
def d_l_folded : He.DefD := ⟨("_law_folded", none), "_law_folded", "_law_folded", defArgs s_l_folded, defBody s_l_folded, defScope s_l_folded, [], []⟩
def d_l_same : He.DefD := ⟨("_law_same", none), "_law_same", "_law_same", defArgs s_l_same, defBody s_l_same, defScope s_l_same, [], []⟩
def d_l_of : He.DefD := ⟨("_law_of", none), "_law_of", "_law_of", defArgs s_l_of, defBody s_l_of, defScope s_l_of, [], []⟩
def d_l_names : He.DefD := ⟨("_law_names", none), "_law_names", "_law_names", defArgs s_l_names, defBody s_l_names, defScope s_l_names, [], []⟩
def d_l_some : He.DefD := ⟨("_law_some", none), "_law_some", "_law_some", defArgs s_l_some, defBody s_l_some, defScope s_l_some, [], []⟩
def d_l_parts_by : He.DefD := ⟨("_law_parts_by", none), "_law_parts_by", "_law_parts_by", defArgs s_l_parts_by, defBody s_l_parts_by, defScope s_l_parts_by, [], []⟩
def d_l_pipes_by : He.DefD := ⟨("_law_pipes_by", none), "_law_pipes_by", "_law_pipes_by", defArgs s_l_pipes_by, defBody s_l_pipes_by, defScope s_l_pipes_by, [], []⟩
def d_l_deeds_by : He.DefD := ⟨("_law_deeds_by", none), "_law_deeds_by", "_law_deeds_by", defArgs s_l_deeds_by, defBody s_l_deeds_by, defScope s_l_deeds_by, [], []⟩
def d_l_sensors_by : He.DefD := ⟨("_law_sensors_by", none), "_law_sensors_by", "_law_sensors_by", defArgs s_l_sensors_by, defBody s_l_sensors_by, defScope s_l_sensors_by, [], []⟩
def d_l_works : He.DefD := ⟨("_law_works", none), "_law_works", "_law_works", defArgs s_l_works, defBody s_l_works, defScope s_l_works, [], []⟩
def d_l_claim : He.DefD := ⟨("_law_claim", none), "_law_claim", "_law_claim", defArgs s_l_claim, defBody s_l_claim, defScope s_l_claim, [], []⟩
def d_l_rises : He.DefD := ⟨("_law_rises", none), "_law_rises", "_law_rises", defArgs s_l_rises, defBody s_l_rises, defScope s_l_rises, [], []⟩
def d_l_is_number : He.DefD := ⟨("_law_is_number", none), "_law_is_number", "_law_is_number", defArgs s_l_is_number, defBody s_l_is_number, defScope s_l_is_number, [], []⟩
def d_l_is_claim : He.DefD := ⟨("_law_is_claim", none), "_law_is_claim", "_law_is_claim", defArgs s_l_is_claim, defBody s_l_is_claim, defScope s_l_is_claim, [], []⟩
def d_l_bent : He.DefD := ⟨("_law_bent", none), "_law_bent", "_law_bent", defArgs s_l_bent, defBody s_l_bent, defScope s_l_bent, [], []⟩
def d_l_right : He.DefD := ⟨("_law_right", none), "_law_right", "_law_right", defArgs s_l_right, defBody s_l_right, defScope s_l_right, [], []⟩
def d_c_law : He.DefD := ⟨("law", none), "law", "law", defArgs s_c_law, defBody s_c_law, defScope s_c_law, [], []⟩
def fn : List He.DefD := [d_c_is_within, d_c_boxes_of, d_c_parts_of, d_c_part_place, d_c_modes_of, d_c_are_some_of, d_c_is_sum, d_c_is_mode, d_c_is_not, d_c_are_claims, d_c_is_claim, d_l_box, d_l_take, d_l_folded, d_l_same, d_l_of, d_l_names, d_l_some, d_l_parts_by, d_l_pipes_by, d_l_deeds_by, d_l_sensors_by, d_l_works, d_l_claim, d_l_rises, d_l_is_number, d_l_is_claim, d_l_bent, d_l_right, d_c_law]
def ts : List He.Tab := [(fun K => He.ga K "CLAIM_FORMS", ["sum", "mode", "not", "all", "any"])]
def v_CLAIM_FORMS : List (Str × He.Dv) := [("sum", .glo "is_sum"), ("mode", .glo "is_mode"), ("not", .glo "is_not"), ("all", .glo "are_claims"), ("any", .glo "are_claims")]
def ex (K : PySem.W.Frag) : Bool := He.valsB K (He.ga K "CLAIM_FORMS") v_CLAIM_FORMS
abbrev R : PySem.W.OpenRow := PySem.W.OpenLaw.row PySem.Challenge.rw_worktwin_k26_claims_or_not
abbrev hk : PySem.W.Hook := He.hookX 4 fa fn ts [] ex
def ob (s : PySem.W.SharedT) : He.AlX := He.obsX 4 fa fn ts [] ex (HandSHeadRun.getT s)
theorem ob_eq (s : PySem.W.SharedT) : ob s = hk.obs s.abs := He.obsX_eq (HandSHeadRun.getT_eq s)
def lo0 : List PySem.Str := ["is_within", "boxes_of", "parts_of", "part_place", "modes_of", "MOST_SUM", "are_some_of", "is_sum", "is_mode", "is_not", "are_claims", "CLAIM_FORMS", "is_claim", "_law_box", "_law_take", "_law_folded", "_law_same", "_law_of", "_law_names", "_law_some", "_law_parts_by", "_law_pipes_by", "_law_deeds_by", "_law_sensors_by", "_law_works", "_law_claim", "_law_rises", "_law_is_number", "_law_is_claim", "_law_bent"]
def lo1 : List PySem.Str := ["_law_right"]
def loose : List PySem.Str := lo0 ++ lo1
set_option maxHeartbeats 0 in
theorem run (w : World) : HandSHeadRun.RunEq R (PySem.W.view R.prog [34]) hk ob 20000 loose w := PySem.W.byRow2 "special-get-raises" (P := fun w => HandSHeadRun.RunEq R (PySem.W.view R.prog [34]) hk ob 20000 loose w) (fun w os => by kernel_rfl) (fun w os => by kernel_rfl) w
set_option maxHeartbeats 0 in
theorem facts {P : Program} {w : World} {K : PySem.W.Frag} {h : Heap} {mg : Str → Option Value} {f : Addr} (X : K.In h) (G : h.Ns mainGlobals mg) (hfa : mg ("law" : Str) = some (.ref f)) (c : He.SaysX fa fn ts [] ex w h K) (math : ∀ ns : List Int, ns.length ≤ 63 → G_c_law [.lst (ns.map .int)] = .ok (.bl true) false []) :
    ∀ base : Heap, K.In base → base.Ns mainGlobals mg → ∃ fd ps, FnG P w K mg base CX0 32 f fd ps (spLaw K) ∧ ∀ (s : Shared) (u : Value), K.In s.heap → BindsTo s fd ⟨[u], []⟩ (ps.zip [u]) := by
  have cd := c.t.d
  have glo : ∀ x : Str, He.Fa.glo x ∈ fa → mg x = some (.ref (He.ga K x)) := fun x hx => He.glo_ok X G (cd.facts hx)
  have fre : ∀ x : Str, He.Fa.free x ∈ fa → mg x = none := fun x hx => He.free_ok X G (cd.facts hx)
  have Z : Zs mg := ⟨fre _ (by simp [fa]), fre _ (by simp [fa]), fre _ (by simp [fa]), fre _ (by simp [fa]), fre _ (by simp [fa]), fre _ (by simp [fa]), fre _ (by simp [fa]), fre _ (by simp [fa]), fre _ (by simp [fa]), fre _ (by simp [fa]), fre _ (by simp [fa]), fre _ (by simp [fa]), fre _ (by simp [fa]), fre _ (by simp [fa]), fre _ (by simp [fa]), fre _ (by simp [fa]), fre _ (by simp [fa]), He.int_ok X G (cd.facts (by simp [fa]))⟩
  have e_c_is_within : Df K mg "is_within" s_c_is_within := by
    obtain ⟨fd, F⟩ := cd.def_ 0 (d := d_c_is_within) rfl
    exact ⟨_, fd, He5.fun_of F, glo _ (by simp [fa])⟩
  have e_c_boxes_of : Df K mg "boxes_of" s_c_boxes_of := by
    obtain ⟨fd, F⟩ := cd.def_ 1 (d := d_c_boxes_of) rfl
    exact ⟨_, fd, He5.fun_of F, glo _ (by simp [fa])⟩
  have e_c_parts_of : Df K mg "parts_of" s_c_parts_of := by
    obtain ⟨fd, F⟩ := cd.def_ 2 (d := d_c_parts_of) rfl
    exact ⟨_, fd, He5.fun_of F, glo _ (by simp [fa])⟩
  have e_c_part_place : Df K mg "part_place" s_c_part_place := by
    obtain ⟨fd, F⟩ := cd.def_ 3 (d := d_c_part_place) rfl
    exact ⟨_, fd, He5.fun_of F, glo _ (by simp [fa])⟩
  have e_c_modes_of : Df K mg "modes_of" s_c_modes_of := by
    obtain ⟨fd, F⟩ := cd.def_ 4 (d := d_c_modes_of) rfl
    exact ⟨_, fd, He5.fun_of F, glo _ (by simp [fa])⟩
  have e_c_are_some_of : Df K mg "are_some_of" s_c_are_some_of := by
    obtain ⟨fd, F⟩ := cd.def_ 5 (d := d_c_are_some_of) rfl
    exact ⟨_, fd, He5.fun_of F, glo _ (by simp [fa])⟩
  have e_c_is_sum : Df K mg "is_sum" s_c_is_sum := by
    obtain ⟨fd, F⟩ := cd.def_ 6 (d := d_c_is_sum) rfl
    exact ⟨_, fd, He5.fun_of F, glo _ (by simp [fa])⟩
  have e_c_is_mode : Df K mg "is_mode" s_c_is_mode := by
    obtain ⟨fd, F⟩ := cd.def_ 7 (d := d_c_is_mode) rfl
    exact ⟨_, fd, He5.fun_of F, glo _ (by simp [fa])⟩
  have e_c_is_not : Df K mg "is_not" s_c_is_not := by
    obtain ⟨fd, F⟩ := cd.def_ 8 (d := d_c_is_not) rfl
    exact ⟨_, fd, He5.fun_of F, glo _ (by simp [fa])⟩
  have e_c_are_claims : Df K mg "are_claims" s_c_are_claims := by
    obtain ⟨fd, F⟩ := cd.def_ 9 (d := d_c_are_claims) rfl
    exact ⟨_, fd, He5.fun_of F, glo _ (by simp [fa])⟩
  have e_c_is_claim : Df K mg "is_claim" s_c_is_claim := by
    obtain ⟨fd, F⟩ := cd.def_ 10 (d := d_c_is_claim) rfl
    exact ⟨_, fd, He5.fun_of F, glo _ (by simp [fa])⟩
  have e_l_box : Df K mg "_law_box" s_l_box := by
    obtain ⟨fd, F⟩ := cd.def_ 11 (d := d_l_box) rfl
    exact ⟨_, fd, He5.fun_of F, glo _ (by simp [fa])⟩
  have e_l_take : Df K mg "_law_take" s_l_take := by
    obtain ⟨fd, F⟩ := cd.def_ 12 (d := d_l_take) rfl
    exact ⟨_, fd, He5.fun_of F, glo _ (by simp [fa])⟩
  have e_l_folded : Df K mg "_law_folded" s_l_folded := by
    obtain ⟨fd, F⟩ := cd.def_ 13 (d := d_l_folded) rfl
    exact ⟨_, fd, He5.fun_of F, glo _ (by simp [fa])⟩
  have e_l_same : Df K mg "_law_same" s_l_same := by
    obtain ⟨fd, F⟩ := cd.def_ 14 (d := d_l_same) rfl
    exact ⟨_, fd, He5.fun_of F, glo _ (by simp [fa])⟩
  have e_l_of : Df K mg "_law_of" s_l_of := by
    obtain ⟨fd, F⟩ := cd.def_ 15 (d := d_l_of) rfl
    exact ⟨_, fd, He5.fun_of F, glo _ (by simp [fa])⟩
  have e_l_names : Df K mg "_law_names" s_l_names := by
    obtain ⟨fd, F⟩ := cd.def_ 16 (d := d_l_names) rfl
    exact ⟨_, fd, He5.fun_of F, glo _ (by simp [fa])⟩
  have e_l_some : Df K mg "_law_some" s_l_some := by
    obtain ⟨fd, F⟩ := cd.def_ 17 (d := d_l_some) rfl
    exact ⟨_, fd, He5.fun_of F, glo _ (by simp [fa])⟩
  have e_l_parts_by : Df K mg "_law_parts_by" s_l_parts_by := by
    obtain ⟨fd, F⟩ := cd.def_ 18 (d := d_l_parts_by) rfl
    exact ⟨_, fd, He5.fun_of F, glo _ (by simp [fa])⟩
  have e_l_pipes_by : Df K mg "_law_pipes_by" s_l_pipes_by := by
    obtain ⟨fd, F⟩ := cd.def_ 19 (d := d_l_pipes_by) rfl
    exact ⟨_, fd, He5.fun_of F, glo _ (by simp [fa])⟩
  have e_l_deeds_by : Df K mg "_law_deeds_by" s_l_deeds_by := by
    obtain ⟨fd, F⟩ := cd.def_ 20 (d := d_l_deeds_by) rfl
    exact ⟨_, fd, He5.fun_of F, glo _ (by simp [fa])⟩
  have e_l_sensors_by : Df K mg "_law_sensors_by" s_l_sensors_by := by
    obtain ⟨fd, F⟩ := cd.def_ 21 (d := d_l_sensors_by) rfl
    exact ⟨_, fd, He5.fun_of F, glo _ (by simp [fa])⟩
  have e_l_works : Df K mg "_law_works" s_l_works := by
    obtain ⟨fd, F⟩ := cd.def_ 22 (d := d_l_works) rfl
    exact ⟨_, fd, He5.fun_of F, glo _ (by simp [fa])⟩
  have e_l_claim : Df K mg "_law_claim" s_l_claim := by
    obtain ⟨fd, F⟩ := cd.def_ 23 (d := d_l_claim) rfl
    exact ⟨_, fd, He5.fun_of F, glo _ (by simp [fa])⟩
  have e_l_rises : Df K mg "_law_rises" s_l_rises := by
    obtain ⟨fd, F⟩ := cd.def_ 24 (d := d_l_rises) rfl
    exact ⟨_, fd, He5.fun_of F, glo _ (by simp [fa])⟩
  have e_l_is_number : Df K mg "_law_is_number" s_l_is_number := by
    obtain ⟨fd, F⟩ := cd.def_ 25 (d := d_l_is_number) rfl
    exact ⟨_, fd, He5.fun_of F, glo _ (by simp [fa])⟩
  have e_l_is_claim : Df K mg "_law_is_claim" s_l_is_claim := by
    obtain ⟨fd, F⟩ := cd.def_ 26 (d := d_l_is_claim) rfl
    exact ⟨_, fd, He5.fun_of F, glo _ (by simp [fa])⟩
  have e_l_bent : Df K mg "_law_bent" s_l_bent := by
    obtain ⟨fd, F⟩ := cd.def_ 27 (d := d_l_bent) rfl
    exact ⟨_, fd, He5.fun_of F, glo _ (by simp [fa])⟩
  have e_l_right : Df K mg "_law_right" s_l_right := by
    obtain ⟨fd, F⟩ := cd.def_ 28 (d := d_l_right) rfl
    exact ⟨_, fd, He5.fun_of F, glo _ (by simp [fa])⟩
  have e_c_law : Df K mg "law" s_c_law := by
    obtain ⟨fd, F⟩ := cd.def_ 29 (d := d_c_law) rfl
    exact ⟨_, fd, He5.fun_of F, glo _ (by simp [fa])⟩
  obtain ⟨es_CLAIM_FORMS, n_CLAIM_FORMS, kd_CLAIM_FORMS⟩ := c.t.tab 0 (t := (fun K => He.ga K "CLAIM_FORMS", ["sum", "mode", "not", "all", "any"])) rfl
  have vb_CLAIM_FORMS : He.valsB K (He.ga K "CLAIM_FORMS") v_CLAIM_FORMS = true := by have := c.more; simpa [ex] using this
  have kv_CLAIM_FORMS : ∀ k v : Str, ((k, .glo v) : Str × He.Dv) ∈ v_CLAIM_FORMS → KDct K w (He.ga K "CLAIM_FORMS") k (.ref (He.ga K v)) := fun k v hm => by
    obtain ⟨u, e1, e2⟩ := He.valsB_ok vb_CLAIM_FORMS hm
    exact ⟨_, _, u, kd_CLAIM_FORMS.at_, kd_CLAIM_FORMS.lit, e1, e2⟩
  have tb_CLAIM_FORMS : mg "CLAIM_FORMS" = some (.ref (He.ga K "CLAIM_FORMS")) ∧ ∀ z f, T_CLAIM_FORMS.lookup z = some f → ∃ a, mg f = some (.ref a) ∧ KDct K w (He.ga K "CLAIM_FORMS") z (.ref a) := ⟨glo _ (by simp [fa]), (tab_cons (glo _ (by simp [fa])) (kv_CLAIM_FORMS "sum" "is_sum" (by simp [v_CLAIM_FORMS])) (tab_cons (glo _ (by simp [fa])) (kv_CLAIM_FORMS "mode" "is_mode" (by simp [v_CLAIM_FORMS])) (tab_cons (glo _ (by simp [fa])) (kv_CLAIM_FORMS "not" "is_not" (by simp [v_CLAIM_FORMS])) (tab_cons (glo _ (by simp [fa])) (kv_CLAIM_FORMS "all" "are_claims" (by simp [v_CLAIM_FORMS])) (tab_cons (glo _ (by simp [fa])) (kv_CLAIM_FORMS "any" "are_claims" (by simp [v_CLAIM_FORMS])) tab_nil)))))⟩
  intro base hb hn
  exact law_cal (all (P := P) (w := w) (base := base) Z e_c_is_within e_c_boxes_of e_c_parts_of e_c_part_place e_c_modes_of e_c_are_some_of e_c_is_sum e_c_is_mode e_c_is_not e_c_are_claims e_c_is_claim e_l_box e_l_take e_l_folded e_l_same e_l_of e_l_names e_l_some e_l_parts_by e_l_pipes_by e_l_deeds_by e_l_sensors_by e_l_works e_l_claim e_l_rises e_l_is_number e_l_is_claim e_l_bent e_l_right e_c_law tb_CLAIM_FORMS (tabIn c.t 0 rfl)) hfa math
theorem holds (math : ∀ ns : List Int, ns.length ≤ 63 → G_c_law [.lst (ns.map .int)] = .ok (.bl true) false []) : PySem.Challenge.rw_worktwin_k26_claims_or_not.Holds := by
  w_on; o_law
  refine HandSHeadRun.head_any (r := R) (q := PySem.W.view R.prog [34]) (H := hk) (ob := ob) (M := 20000) (loose := loose) (d := HandSHeadRun.topDef R.prog 34) (kwd := []) ob_eq
    (by kernel_rfl) (fun s => by kernel_rfl) run (by kernel_rfl) (by kernel_rfl) (by kernel_rfl) (by rfl) (by first | assumption | decide +kernel) (by decide +kernel) ⟨rfl, rfl, rfl, rfl, rfl, by decide +kernel⟩ ?hw ?hc
  case hw => w_witness2
  case hc =>
    refine walk_ofGE (l := PySem.Challenge.rw_worktwin_k26_claims_or_not) (n := 63) (k := 32) rfl (by decide) (by kernel_rfl) ⟨rfl, by decide, by decide⟩ fun w mg fa h Y G hmg0 => ?_
    obtain ⟨K, KX, c⟩ := Y
    have hmg : mg ("law" : PySem.Str) = some (.ref fa) := by
      have e : (HandSHeadRun.topDef R.prog 34).name = ("law" : PySem.Str) := by kernel_rfl
      rw [← e]
      exact hmg0
    exact ⟨K, spLaw K, KX, fun H a ns hl _ hS => ⟨a, ns, rfl, hS, hl, fun _ => rfl⟩, facts (P := (PySem.Challenge.rw_worktwin_k26_claims_or_not).prog) (w := w) KX G hmg c math⟩
end L26
set_option autoImplicit false
set_option Elab.async false
set_option linter.all false
set_option maxRecDepth 100000
set_option pp.maxSteps 500
set_option pp.deepTerms false
namespace L26
open PySem L2 Wt
/-! ### the box -/
def Bx (n : Nat) (d : D) : Prop := ∃ a b c : Int, d = .lst [.int a, .int b, .int c] ∧ 0 ≤ a ∧ 0 ≤ b ∧ b < 2147483647 ∧ 0 ≤ c ∧ c ≤ n
theorem Bx.mono {n m : Nat} {d : D} (h : Bx n d) (k : n ≤ m) : Bx m d := by
  obtain ⟨a, b, c, e, h1, h2, h3, h4, h5⟩ := h
  exact ⟨a, b, c, e, h1, h2, h3, h4, by omega⟩
theorem sm_of {i : Int} (h1 : -(2 ^ 64) < i) (h2 : i < 2 ^ 64) : sm64 i = true := by
  unfold sm64; simp; exact ⟨h1, h2⟩
theorem mul_ok {i j : Int} (h : sm64 i = true ∨ sm64 j = true) : pMul [.int i, .int j] = some ⟨.int (i * j), false⟩ := by
  show (if (sm64 i || sm64 j) = true then _ else _) = _
  rw [if_pos (by rcases h with h | h <;> simp [h])]
theorem mod_ok {i j : Int} (h : 0 < j) : pMod [.int i, .int j] = some ⟨.int (i % j), false⟩ := if_pos h
theorem div_ok {i j : Int} (h : 0 < j) (h2 : j < 1073741824) : pDiv [.int i, .int j] = some ⟨.int (i / j), false⟩ := if_pos ⟨h, h2⟩
theorem pow_ok {i j : Int} (h : 0 ≤ j) (h2 : j ≤ 1000000) (h3 : i.natAbs < 2 ^ 64) : pPow [.int i, .int j] = some ⟨.int (i ^ j.toNat), false⟩ := if_pos ⟨h, h2, h3⟩
theorem divmod_ok {i j : Int} (h : 0 < j) (h2 : j < 1073741824) : pDivmod [.int i, .int j] = some ⟨.tup [.int (i / j), .int (i % j)], false⟩ := if_pos ⟨h, h2⟩
set_option maxHeartbeats 4000000 in
theorem take_spec {n k : Nat} {d : D} {room : Int} (hB : Bx n d) (hn : n < 1000000000) (h1 : 0 < room) (h2 : room ≤ 10000000) :
    Wo (G_l_take (k + 1) [d, .int room]) fun v fr refs => ∃ r d', v = .int r ∧ fr = false ∧ refs = [d'] ∧ Bx (n + 1) d' ∧ 0 ≤ r ∧ r < room := by
  obtain ⟨a, b, c, rfl, ha, hb, hb2, hc, hc2⟩ := hB
  refine w_def (σ := [.ln (.lst [.int a, .int b, .int c]), .fz (.int room), .no, .no, .no, .no]) rfl ?_
  unfold F_l_take
  have h7 : pPow [.int 10, .int 7] = some ⟨.int 10000000, false⟩ := pow_ok (by decide) (by decide) (by decide)
  repeat (first | refine s_seq ?_ | refine s_nil ?_ | refine s_set ?_ | refine s_if ?_ | refine s_ret ?_ | refine s_retV rfl ?_ | refine s_retO rfl ?_ | refine s_expr ?_ | refine s_unp ?_ | refine s_star ?_ | refine s_par ?_ | refine s_put ?_ | refine s_unpAt ?_ | refine p_k ⟨_, rfl, ?_⟩ | refine w_rnil ?_ | refine w_rcons ?_ | refine w_c ?_ | refine w_var rfl ?_ | refine w_varO rfl ?_ | refine w_nil ?_ | refine w_s rfl ?_ | refine w_v ?_ | refine w_prim ?_ | refine w_call ?_ | refine w_callT ?_ | refine w_methV ?_ | refine w_dnil ?_ | refine w_dcons ?_ | refine w_tup ?_ | refine w_lst ?_ | refine w_if ?_ | refine w_and ?_ | refine w_or ?_ | refine w_not ?_ | refine w_chain ?_ | refine w_sl ?_ | refine w_as rfl ?_ | refine w_av ?_ | refine w_bno ?_ | refine w_bat ?_ | refine w_fapp rfl ?_ | refine t_bl ?_ | refine t_val ?_ | refine t_and ?_ | refine t_or ?_ | refine t_not ?_ | refine i_ex ?_ | refine i_fz rfl rfl ?_ | refine i_rng ?_ | refine W.mk ?_ | refine ⟨_, _, rfl, rfl, ?_⟩ | refine ⟨_, rfl, ?_⟩)
  by_cases c0 : 0 < a
  · rw [if_pos (decide_eq_true c0)]
    repeat (first | refine s_seq ?_ | refine s_nil ?_ | refine s_set ?_ | refine s_if ?_ | refine s_ret ?_ | refine s_retV rfl ?_ | refine s_retO rfl ?_ | refine s_expr ?_ | refine s_unp ?_ | refine s_star ?_ | refine s_par ?_ | refine s_put ?_ | refine s_unpAt ?_ | refine p_k ⟨_, rfl, ?_⟩ | refine w_rnil ?_ | refine w_rcons ?_ | refine w_c ?_ | refine w_var rfl ?_ | refine w_varO rfl ?_ | refine w_nil ?_ | refine w_s rfl ?_ | refine w_v ?_ | refine w_prim ?_ | refine w_call ?_ | refine w_callT ?_ | refine w_methV ?_ | refine w_dnil ?_ | refine w_dcons ?_ | refine w_tup ?_ | refine w_lst ?_ | refine w_if ?_ | refine w_and ?_ | refine w_or ?_ | refine w_not ?_ | refine w_chain ?_ | refine w_sl ?_ | refine w_as rfl ?_ | refine w_av ?_ | refine w_bno ?_ | refine w_bat ?_ | refine w_fapp rfl ?_ | refine t_bl ?_ | refine t_val ?_ | refine t_and ?_ | refine t_or ?_ | refine t_not ?_ | refine i_ex ?_ | refine i_fz rfl rfl ?_ | refine i_rng ?_ | refine W.mk ?_ | refine ⟨_, _, rfl, rfl, ?_⟩ | refine ⟨_, rfl, ?_⟩)
    refine ⟨_, _, rfl, divmod_ok h1 (by omega), ?_⟩
    refine ⟨_, _, rfl, ?_⟩
    repeat (first | refine s_seq ?_ | refine s_nil ?_ | refine s_set ?_ | refine s_if ?_ | refine s_ret ?_ | refine s_retV rfl ?_ | refine s_retO rfl ?_ | refine s_expr ?_ | refine s_unp ?_ | refine s_star ?_ | refine s_par ?_ | refine s_put ?_ | refine s_unpAt ?_ | refine p_k ⟨_, rfl, ?_⟩ | refine w_rnil ?_ | refine w_rcons ?_ | refine w_c ?_ | refine w_var rfl ?_ | refine w_varO rfl ?_ | refine w_nil ?_ | refine w_s rfl ?_ | refine w_v ?_ | refine w_prim ?_ | refine w_call ?_ | refine w_callT ?_ | refine w_methV ?_ | refine w_dnil ?_ | refine w_dcons ?_ | refine w_tup ?_ | refine w_lst ?_ | refine w_if ?_ | refine w_and ?_ | refine w_or ?_ | refine w_not ?_ | refine w_chain ?_ | refine w_sl ?_ | refine w_as rfl ?_ | refine w_av ?_ | refine w_bno ?_ | refine w_bat ?_ | refine w_fapp rfl ?_ | refine t_bl ?_ | refine t_val ?_ | refine t_and ?_ | refine t_or ?_ | refine t_not ?_ | refine i_ex ?_ | refine i_fz rfl rfl ?_ | refine i_rng ?_ | refine W.mk ?_ | refine ⟨_, _, rfl, rfl, ?_⟩ | refine ⟨_, rfl, ?_⟩)
    exact ⟨_, _, rfl, rfl, rfl, ⟨a / room, b, c, rfl, Int.ediv_nonneg ha (by omega), hb, hb2, hc, by omega⟩, Int.emod_nonneg _ (by omega), Int.emod_lt_of_pos _ h1⟩
  · rw [if_neg (by simpa using c0)]
    repeat (first | refine s_seq ?_ | refine s_nil ?_ | refine s_set ?_ | refine s_if ?_ | refine s_ret ?_ | refine s_retV rfl ?_ | refine s_retO rfl ?_ | refine s_expr ?_ | refine s_unp ?_ | refine s_star ?_ | refine s_par ?_ | refine s_put ?_ | refine s_unpAt ?_ | refine p_k ⟨_, rfl, ?_⟩ | refine w_rnil ?_ | refine w_rcons ?_ | refine w_c ?_ | refine w_var rfl ?_ | refine w_varO rfl ?_ | refine w_nil ?_ | refine w_s rfl ?_ | refine w_v ?_ | refine w_prim ?_ | refine w_call ?_ | refine w_callT ?_ | refine w_methV ?_ | refine w_dnil ?_ | refine w_dcons ?_ | refine w_tup ?_ | refine w_lst ?_ | refine w_if ?_ | refine w_and ?_ | refine w_or ?_ | refine w_not ?_ | refine w_chain ?_ | refine w_sl ?_ | refine w_as rfl ?_ | refine w_av ?_ | refine w_bno ?_ | refine w_bat ?_ | refine w_fapp rfl ?_ | refine t_bl ?_ | refine t_val ?_ | refine t_and ?_ | refine t_or ?_ | refine t_not ?_ | refine i_ex ?_ | refine i_fz rfl rfl ?_ | refine i_rng ?_ | refine W.mk ?_ | refine ⟨_, _, rfl, rfl, ?_⟩ | refine ⟨_, rfl, ?_⟩)
    rw [if_neg (by simp; omega)]
    repeat (first | refine s_seq ?_ | refine s_nil ?_ | refine s_set ?_ | refine s_if ?_ | refine s_ret ?_ | refine s_retV rfl ?_ | refine s_retO rfl ?_ | refine s_expr ?_ | refine s_unp ?_ | refine s_star ?_ | refine s_par ?_ | refine s_put ?_ | refine s_unpAt ?_ | refine p_k ⟨_, rfl, ?_⟩ | refine w_rnil ?_ | refine w_rcons ?_ | refine w_c ?_ | refine w_var rfl ?_ | refine w_varO rfl ?_ | refine w_nil ?_ | refine w_s rfl ?_ | refine w_v ?_ | refine w_prim ?_ | refine w_call ?_ | refine w_callT ?_ | refine w_methV ?_ | refine w_dnil ?_ | refine w_dcons ?_ | refine w_tup ?_ | refine w_lst ?_ | refine w_if ?_ | refine w_and ?_ | refine w_or ?_ | refine w_not ?_ | refine w_chain ?_ | refine w_sl ?_ | refine w_as rfl ?_ | refine w_av ?_ | refine w_bno ?_ | refine w_bat ?_ | refine w_fapp rfl ?_ | refine t_bl ?_ | refine t_val ?_ | refine t_and ?_ | refine t_or ?_ | refine t_not ?_ | refine i_ex ?_ | refine i_fz rfl rfl ?_ | refine i_rng ?_ | refine W.mk ?_ | refine ⟨_, _, rfl, rfl, ?_⟩ | refine ⟨_, rfl, ?_⟩)
    refine ⟨_, _, rfl, mul_ok (.inl (sm_of (by omega) (by omega))), ?_⟩
    repeat (first | refine s_seq ?_ | refine s_nil ?_ | refine s_set ?_ | refine s_if ?_ | refine s_ret ?_ | refine s_retV rfl ?_ | refine s_retO rfl ?_ | refine s_expr ?_ | refine s_unp ?_ | refine s_star ?_ | refine s_par ?_ | refine s_put ?_ | refine s_unpAt ?_ | refine p_k ⟨_, rfl, ?_⟩ | refine w_rnil ?_ | refine w_rcons ?_ | refine w_c ?_ | refine w_var rfl ?_ | refine w_varO rfl ?_ | refine w_nil ?_ | refine w_s rfl ?_ | refine w_v ?_ | refine w_prim ?_ | refine w_call ?_ | refine w_callT ?_ | refine w_methV ?_ | refine w_dnil ?_ | refine w_dcons ?_ | refine w_tup ?_ | refine w_lst ?_ | refine w_if ?_ | refine w_and ?_ | refine w_or ?_ | refine w_not ?_ | refine w_chain ?_ | refine w_sl ?_ | refine w_as rfl ?_ | refine w_av ?_ | refine w_bno ?_ | refine w_bat ?_ | refine w_fapp rfl ?_ | refine t_bl ?_ | refine t_val ?_ | refine t_and ?_ | refine t_or ?_ | refine t_not ?_ | refine i_ex ?_ | refine i_fz rfl rfl ?_ | refine i_rng ?_ | refine W.mk ?_ | refine ⟨_, _, rfl, rfl, ?_⟩ | refine ⟨_, rfl, ?_⟩)
    refine ⟨_, _, rfl, mul_ok (.inl (sm_of (by omega) (by omega))), ?_⟩
    repeat (first | refine s_seq ?_ | refine s_nil ?_ | refine s_set ?_ | refine s_if ?_ | refine s_ret ?_ | refine s_retV rfl ?_ | refine s_retO rfl ?_ | refine s_expr ?_ | refine s_unp ?_ | refine s_star ?_ | refine s_par ?_ | refine s_put ?_ | refine s_unpAt ?_ | refine p_k ⟨_, rfl, ?_⟩ | refine w_rnil ?_ | refine w_rcons ?_ | refine w_c ?_ | refine w_var rfl ?_ | refine w_varO rfl ?_ | refine w_nil ?_ | refine w_s rfl ?_ | refine w_v ?_ | refine w_prim ?_ | refine w_call ?_ | refine w_callT ?_ | refine w_methV ?_ | refine w_dnil ?_ | refine w_dcons ?_ | refine w_tup ?_ | refine w_lst ?_ | refine w_if ?_ | refine w_and ?_ | refine w_or ?_ | refine w_not ?_ | refine w_chain ?_ | refine w_sl ?_ | refine w_as rfl ?_ | refine w_av ?_ | refine w_bno ?_ | refine w_bat ?_ | refine w_fapp rfl ?_ | refine t_bl ?_ | refine t_val ?_ | refine t_and ?_ | refine t_or ?_ | refine t_not ?_ | refine i_ex ?_ | refine i_fz rfl rfl ?_ | refine i_rng ?_ | refine W.mk ?_ | refine ⟨_, _, rfl, rfl, ?_⟩ | refine ⟨_, rfl, ?_⟩)
    generalize hx : (b + 39373 * (c + 1)) * (69621 + (c + 1) * (c + 1)) % 2147483587 = x
    have x1 : 0 ≤ x := by rw [← hx]; exact Int.emod_nonneg _ (by decide)
    have x2 : x < 2147483587 := by rw [← hx]; exact Int.emod_lt_of_pos _ (by decide)
    refine ⟨_, _, rfl, mul_ok (.inl (sm_of (by omega) (by omega))), ?_⟩
    repeat (first | refine s_seq ?_ | refine s_nil ?_ | refine s_set ?_ | refine s_if ?_ | refine s_ret ?_ | refine s_retV rfl ?_ | refine s_retO rfl ?_ | refine s_expr ?_ | refine s_unp ?_ | refine s_star ?_ | refine s_par ?_ | refine s_put ?_ | refine s_unpAt ?_ | refine p_k ⟨_, rfl, ?_⟩ | refine w_rnil ?_ | refine w_rcons ?_ | refine w_c ?_ | refine w_var rfl ?_ | refine w_varO rfl ?_ | refine w_nil ?_ | refine w_s rfl ?_ | refine w_v ?_ | refine w_prim ?_ | refine w_call ?_ | refine w_callT ?_ | refine w_methV ?_ | refine w_dnil ?_ | refine w_dcons ?_ | refine w_tup ?_ | refine w_lst ?_ | refine w_if ?_ | refine w_and ?_ | refine w_or ?_ | refine w_not ?_ | refine w_chain ?_ | refine w_sl ?_ | refine w_as rfl ?_ | refine w_av ?_ | refine w_bno ?_ | refine w_bat ?_ | refine w_fapp rfl ?_ | refine t_bl ?_ | refine t_val ?_ | refine t_and ?_ | refine t_or ?_ | refine t_not ?_ | refine i_ex ?_ | refine i_fz rfl rfl ?_ | refine i_rng ?_ | refine W.mk ?_ | refine ⟨_, _, rfl, rfl, ?_⟩ | refine ⟨_, rfl, ?_⟩)
    generalize hy : (x * (x % 30011 + 5) + (c + 1)) % 2147483563 = y
    have y1 : 0 ≤ y := by rw [← hy]; exact Int.emod_nonneg _ (by decide)
    have y2 : y < 2147483563 := by rw [← hy]; exact Int.emod_lt_of_pos _ (by decide)
    refine ⟨_, _, rfl, mul_ok (.inl (sm_of (by omega) (by omega))), ?_⟩
    repeat (first | refine s_seq ?_ | refine s_nil ?_ | refine s_set ?_ | refine s_if ?_ | refine s_ret ?_ | refine s_retV rfl ?_ | refine s_retO rfl ?_ | refine s_expr ?_ | refine s_unp ?_ | refine s_star ?_ | refine s_par ?_ | refine s_put ?_ | refine s_unpAt ?_ | refine p_k ⟨_, rfl, ?_⟩ | refine w_rnil ?_ | refine w_rcons ?_ | refine w_c ?_ | refine w_var rfl ?_ | refine w_varO rfl ?_ | refine w_nil ?_ | refine w_s rfl ?_ | refine w_v ?_ | refine w_prim ?_ | refine w_call ?_ | refine w_callT ?_ | refine w_methV ?_ | refine w_dnil ?_ | refine w_dcons ?_ | refine w_tup ?_ | refine w_lst ?_ | refine w_if ?_ | refine w_and ?_ | refine w_or ?_ | refine w_not ?_ | refine w_chain ?_ | refine w_sl ?_ | refine w_as rfl ?_ | refine w_av ?_ | refine w_bno ?_ | refine w_bat ?_ | refine w_fapp rfl ?_ | refine t_bl ?_ | refine t_val ?_ | refine t_and ?_ | refine t_or ?_ | refine t_not ?_ | refine i_ex ?_ | refine i_fz rfl rfl ?_ | refine i_rng ?_ | refine W.mk ?_ | refine ⟨_, _, rfl, rfl, ?_⟩ | refine ⟨_, rfl, ?_⟩)
    refine ⟨_, _, rfl, mod_ok h1, ?_⟩
    repeat (first | refine s_seq ?_ | refine s_nil ?_ | refine s_set ?_ | refine s_if ?_ | refine s_ret ?_ | refine s_retV rfl ?_ | refine s_retO rfl ?_ | refine s_expr ?_ | refine s_unp ?_ | refine s_star ?_ | refine s_par ?_ | refine s_put ?_ | refine s_unpAt ?_ | refine p_k ⟨_, rfl, ?_⟩ | refine w_rnil ?_ | refine w_rcons ?_ | refine w_c ?_ | refine w_var rfl ?_ | refine w_varO rfl ?_ | refine w_nil ?_ | refine w_s rfl ?_ | refine w_v ?_ | refine w_prim ?_ | refine w_call ?_ | refine w_callT ?_ | refine w_methV ?_ | refine w_dnil ?_ | refine w_dcons ?_ | refine w_tup ?_ | refine w_lst ?_ | refine w_if ?_ | refine w_and ?_ | refine w_or ?_ | refine w_not ?_ | refine w_chain ?_ | refine w_sl ?_ | refine w_as rfl ?_ | refine w_av ?_ | refine w_bno ?_ | refine w_bat ?_ | refine w_fapp rfl ?_ | refine t_bl ?_ | refine t_val ?_ | refine t_and ?_ | refine t_or ?_ | refine t_not ?_ | refine i_ex ?_ | refine i_fz rfl rfl ?_ | refine i_rng ?_ | refine W.mk ?_ | refine ⟨_, _, rfl, rfl, ?_⟩ | refine ⟨_, rfl, ?_⟩)
    exact ⟨_, _, rfl, rfl, rfl, ⟨a, b, c + 1, rfl, ha, hb, hb2, by omega, by omega⟩, Int.emod_nonneg _ (by omega), Int.emod_lt_of_pos _ h1⟩
end L26
set_option autoImplicit false
set_option Elab.async false
set_option linter.all false
set_option maxRecDepth 100000
set_option pp.maxSteps 500
set_option pp.deepTerms false
namespace L26
open PySem L2 Wt
/-! ### helpers -/
def Free (s : Sl) : Prop := s = .no ∨ ∃ d, s = .fz d
theorem Free.no : Free .no := .inl rfl
theorem Free.fz {d : D} : Free (.fz d) := .inr ⟨d, rfl⟩
theorem store_free {i : Nat} {d : D} {σ : Stt} {s : Sl} (e : σ[i]? = some s) (f : Free s) : storeS i ⟨d, false⟩ σ = some (σ.set i (.fz d)) := by
  unfold storeS
  rw [e]
  rcases f with rfl | ⟨d', rfl⟩ <;> rfl
theorem store_freeO {i : Nat} {ds : List D} {σ : Stt} {s : Sl} (e : σ[i]? = some s) (f : Free s) : storeS i ⟨.lst ds, true⟩ σ = some (σ.set i (.ow (.lst ds))) := by
  unfold storeS
  rw [e]
  rcases f with rfl | ⟨d', rfl⟩ <;> rfl
theorem put_free {i : Nat} {d : D} {σ : Stt} {s : Sl} (e : σ[i]? = some s) (f : Free s) : Tg.put (.nm i) d σ = some (σ.set i (.fz d)) := by
  simp only [Tg.put, e]
  rcases f with rfl | ⟨d', rfl⟩ <;> rfl
theorem atI_ok {α : Type} {xs : List α} {i : Int} (h0 : 0 ≤ i) (h1 : i < xs.length) : ∃ x, L2.atI xs i = some x ∧ x ∈ xs ∧ xs[i.toNat]? = some x := by
  have hlt : i.toNat < xs.length := by omega
  refine ⟨xs[i.toNat], ?_, List.getElem_mem hlt, List.getElem?_eq_getElem hlt⟩
  have e := atI_nat (xs := xs) (j := i.toNat) (v := xs[i.toNat]) (List.getElem?_eq_getElem hlt)
  rwa [Int.toNat_of_nonneg h0] at e
theorem ifT {c : Prop} [Decidable c] {a b : Prop} (h : c) (k : a) : if c then a else b := by rw [if_pos h]; exact k
theorem ifF {c : Prop} [Decidable c] {a b : Prop} (h : ¬ c) (k : b) : if c then a else b := by rw [if_neg h]; exact k
theorem ge_dec {i j : Int} : (decide (i ≤ j)) = true ↔ i ≤ j := decide_eq_true_iff
/-- the items of a list or tuple -/
theorem pIx_ok {d : D} {ds : List D} {i : Int} {x : D} (e : itemsOf d = some ds) (h : L2.atI ds i = some x) : pIx [d, .int i] = some ⟨x, false⟩ := by
  cases d with
  | lst xs => cases e; show (L2.atI ds i).map _ = _; rw [h]; rfl
  | tup xs => cases e; show (L2.atI ds i).map _ = _; rw [h]; rfl
  | _ => cases e
theorem pLen_ok {d : D} {ds : List D} (e : itemsOf d = some ds) : pLen [d] = some ⟨.int ds.length, false⟩ := by
  cases d with
  | lst xs => cases e; rfl
  | tup xs => cases e; rfl
  | _ => cases e
theorem box_spec {ds : List D} {k : Nat} (h : ∃ c : Int, ds[k]? = some (.int c)) (hk : k < 100) : ∃ d, G_l_box [.lst ds, .int k] = .ok d true [] ∧ Bx 0 d := by
  obtain ⟨c, hc⟩ := h
  have hlt : k < ds.length := (List.getElem?_eq_some_iff.mp hc).1
  have go : Wo (G_l_box [.lst ds, .int k]) fun v fr refs => fr = true ∧ refs = [] ∧ Bx 0 v := by
    refine w_def (σ := [.fz (.lst ds), .fz (.int k), .no]) rfl ?_
    unfold F_l_box
    repeat (first | refine s_seq ?_ | refine s_nil ?_ | refine s_set ?_ | refine s_if ?_ | refine s_ret ?_ | refine s_retV rfl ?_ | refine s_retO rfl ?_ | refine s_expr ?_ | refine s_unp ?_ | refine s_star ?_ | refine s_par ?_ | refine s_put ?_ | refine s_unpAt ?_ | refine p_k ⟨_, rfl, ?_⟩ | refine w_rnil ?_ | refine w_rcons ?_ | refine w_c ?_ | refine w_var rfl ?_ | refine w_varO rfl ?_ | refine w_nil ?_ | refine w_s rfl ?_ | refine w_v ?_ | refine w_prim ?_ | refine w_call ?_ | refine w_callT ?_ | refine w_methV ?_ | refine w_dnil ?_ | refine w_dcons ?_ | refine w_tup ?_ | refine w_lst ?_ | refine w_if ?_ | refine w_and ?_ | refine w_or ?_ | refine w_not ?_ | refine w_chain ?_ | refine w_sl ?_ | refine w_as rfl ?_ | refine w_av ?_ | refine w_bno ?_ | refine w_bat ?_ | refine w_fapp rfl ?_ | refine t_bl ?_ | refine t_val ?_ | refine t_and ?_ | refine t_or ?_ | refine t_not ?_ | refine i_ex ?_ | refine i_fz rfl rfl ?_ | refine i_rng ?_ | refine W.mk ?_ | refine ⟨_, _, rfl, rfl, ?_⟩ | refine ⟨_, rfl, ?_⟩)
    rw [if_pos (by simp; omega)]
    repeat (first | refine s_seq ?_ | refine s_nil ?_ | refine s_set ?_ | refine s_if ?_ | refine s_ret ?_ | refine s_retV rfl ?_ | refine s_retO rfl ?_ | refine s_expr ?_ | refine s_unp ?_ | refine s_star ?_ | refine s_par ?_ | refine s_put ?_ | refine s_unpAt ?_ | refine p_k ⟨_, rfl, ?_⟩ | refine w_rnil ?_ | refine w_rcons ?_ | refine w_c ?_ | refine w_var rfl ?_ | refine w_varO rfl ?_ | refine w_nil ?_ | refine w_s rfl ?_ | refine w_v ?_ | refine w_prim ?_ | refine w_call ?_ | refine w_callT ?_ | refine w_methV ?_ | refine w_dnil ?_ | refine w_dcons ?_ | refine w_tup ?_ | refine w_lst ?_ | refine w_if ?_ | refine w_and ?_ | refine w_or ?_ | refine w_not ?_ | refine w_chain ?_ | refine w_sl ?_ | refine w_as rfl ?_ | refine w_av ?_ | refine w_bno ?_ | refine w_bat ?_ | refine w_fapp rfl ?_ | refine t_bl ?_ | refine t_val ?_ | refine t_and ?_ | refine t_or ?_ | refine t_not ?_ | refine i_ex ?_ | refine i_fz rfl rfl ?_ | refine i_rng ?_ | refine W.mk ?_ | refine ⟨_, _, rfl, rfl, ?_⟩ | refine ⟨_, rfl, ?_⟩)
    refine ⟨_, _, rfl, pIx_ok rfl (atI_nat hc), ?_⟩
    repeat (first | refine s_seq ?_ | refine s_nil ?_ | refine s_set ?_ | refine s_if ?_ | refine s_ret ?_ | refine s_retV rfl ?_ | refine s_retO rfl ?_ | refine s_expr ?_ | refine s_unp ?_ | refine s_star ?_ | refine s_par ?_ | refine s_put ?_ | refine s_unpAt ?_ | refine p_k ⟨_, rfl, ?_⟩ | refine w_rnil ?_ | refine w_rcons ?_ | refine w_c ?_ | refine w_var rfl ?_ | refine w_varO rfl ?_ | refine w_nil ?_ | refine w_s rfl ?_ | refine w_v ?_ | refine w_prim ?_ | refine w_call ?_ | refine w_callT ?_ | refine w_methV ?_ | refine w_dnil ?_ | refine w_dcons ?_ | refine w_tup ?_ | refine w_lst ?_ | refine w_if ?_ | refine w_and ?_ | refine w_or ?_ | refine w_not ?_ | refine w_chain ?_ | refine w_sl ?_ | refine w_as rfl ?_ | refine w_av ?_ | refine w_bno ?_ | refine w_bat ?_ | refine w_fapp rfl ?_ | refine t_bl ?_ | refine t_val ?_ | refine t_and ?_ | refine t_or ?_ | refine t_not ?_ | refine i_ex ?_ | refine i_fz rfl rfl ?_ | refine i_rng ?_ | refine W.mk ?_ | refine ⟨_, _, rfl, rfl, ?_⟩ | refine ⟨_, rfl, ?_⟩)
    generalize ha : (if c < 0 then -c else c) = a
    have a0 : 0 ≤ a := by rw [← ha]; split <;> omega
    generalize hb : (if decide ((10 : Int) ^ Int.toNat 18 ≤ a) = true then (1 : Int) else 0) = b
    have b0 : 0 ≤ b ∧ b ≤ 1 := by rw [← hb]; split <;> omega
    refine ⟨_, _, rfl, mul_ok (.inr (sm_of (by omega) (by omega))), ?_⟩
    repeat (first | refine s_seq ?_ | refine s_nil ?_ | refine s_set ?_ | refine s_if ?_ | refine s_ret ?_ | refine s_retV rfl ?_ | refine s_retO rfl ?_ | refine s_expr ?_ | refine s_unp ?_ | refine s_star ?_ | refine s_par ?_ | refine s_put ?_ | refine s_unpAt ?_ | refine p_k ⟨_, rfl, ?_⟩ | refine w_rnil ?_ | refine w_rcons ?_ | refine w_c ?_ | refine w_var rfl ?_ | refine w_varO rfl ?_ | refine w_nil ?_ | refine w_s rfl ?_ | refine w_v ?_ | refine w_prim ?_ | refine w_call ?_ | refine w_callT ?_ | refine w_methV ?_ | refine w_dnil ?_ | refine w_dcons ?_ | refine w_tup ?_ | refine w_lst ?_ | refine w_if ?_ | refine w_and ?_ | refine w_or ?_ | refine w_not ?_ | refine w_chain ?_ | refine w_sl ?_ | refine w_as rfl ?_ | refine w_av ?_ | refine w_bno ?_ | refine w_bat ?_ | refine w_fapp rfl ?_ | refine t_bl ?_ | refine t_val ?_ | refine t_and ?_ | refine t_or ?_ | refine t_not ?_ | refine i_ex ?_ | refine i_fz rfl rfl ?_ | refine i_rng ?_ | refine W.mk ?_ | refine ⟨_, _, rfl, rfl, ?_⟩ | refine ⟨_, rfl, ?_⟩)
    refine ⟨_, _, rfl, mul_ok (.inr rfl), ?_⟩
    repeat (first | refine s_seq ?_ | refine s_nil ?_ | refine s_set ?_ | refine s_if ?_ | refine s_ret ?_ | refine s_retV rfl ?_ | refine s_retO rfl ?_ | refine s_expr ?_ | refine s_unp ?_ | refine s_star ?_ | refine s_par ?_ | refine s_put ?_ | refine s_unpAt ?_ | refine p_k ⟨_, rfl, ?_⟩ | refine w_rnil ?_ | refine w_rcons ?_ | refine w_c ?_ | refine w_var rfl ?_ | refine w_varO rfl ?_ | refine w_nil ?_ | refine w_s rfl ?_ | refine w_v ?_ | refine w_prim ?_ | refine w_call ?_ | refine w_callT ?_ | refine w_methV ?_ | refine w_dnil ?_ | refine w_dcons ?_ | refine w_tup ?_ | refine w_lst ?_ | refine w_if ?_ | refine w_and ?_ | refine w_or ?_ | refine w_not ?_ | refine w_chain ?_ | refine w_sl ?_ | refine w_as rfl ?_ | refine w_av ?_ | refine w_bno ?_ | refine w_bat ?_ | refine w_fapp rfl ?_ | refine t_bl ?_ | refine t_val ?_ | refine t_and ?_ | refine t_or ?_ | refine t_not ?_ | refine i_ex ?_ | refine i_fz rfl rfl ?_ | refine i_rng ?_ | refine W.mk ?_ | refine ⟨_, _, rfl, rfl, ?_⟩ | refine ⟨_, rfl, ?_⟩)
    refine ⟨by show 3 ≤ sizeLine; rw [sizeLine_eq]; decide, ?_⟩
    repeat (first | refine s_seq ?_ | refine s_nil ?_ | refine s_set ?_ | refine s_if ?_ | refine s_ret ?_ | refine s_retV rfl ?_ | refine s_retO rfl ?_ | refine s_expr ?_ | refine s_unp ?_ | refine s_star ?_ | refine s_par ?_ | refine s_put ?_ | refine s_unpAt ?_ | refine p_k ⟨_, rfl, ?_⟩ | refine w_rnil ?_ | refine w_rcons ?_ | refine w_c ?_ | refine w_var rfl ?_ | refine w_varO rfl ?_ | refine w_nil ?_ | refine w_s rfl ?_ | refine w_v ?_ | refine w_prim ?_ | refine w_call ?_ | refine w_callT ?_ | refine w_methV ?_ | refine w_dnil ?_ | refine w_dcons ?_ | refine w_tup ?_ | refine w_lst ?_ | refine w_if ?_ | refine w_and ?_ | refine w_or ?_ | refine w_not ?_ | refine w_chain ?_ | refine w_sl ?_ | refine w_as rfl ?_ | refine w_av ?_ | refine w_bno ?_ | refine w_bat ?_ | refine w_fapp rfl ?_ | refine t_bl ?_ | refine t_val ?_ | refine t_and ?_ | refine t_or ?_ | refine t_not ?_ | refine i_ex ?_ | refine i_fz rfl rfl ?_ | refine i_rng ?_ | refine W.mk ?_ | refine ⟨_, _, rfl, rfl, ?_⟩ | refine ⟨_, rfl, ?_⟩)
    exact ⟨rfl, rfl, _, _, _, rfl, Int.mul_nonneg a0 b0.1, Int.emod_nonneg _ (by decide), Int.emod_lt_of_pos _ (by decide), by decide, by decide⟩
  obtain ⟨d, fr, refs, e, rfl, rfl, hB⟩ := go.eq
  exact ⟨d, e, hB⟩
end L26
set_option autoImplicit false
set_option Elab.async false
set_option linter.all false
set_option maxRecDepth 100000
set_option pp.maxSteps 500
set_option pp.deepTerms false
namespace L26
open PySem L2 Wt
set_option maxHeartbeats 1000000 in
theorem of_spec {n k : Nat} {d l : D} {ds : List D} (hB : Bx n d) (hn : n < 1000000000) (e : itemsOf l = some ds) (h0 : 0 < ds.length) (h1 : ds.length ≤ 10000000) :
    Wo (G_l_of [d, l]) fun v fr refs => fr = false ∧ v ∈ ds ∧ ∃ d', refs = [d'] ∧ Bx (n + 1) d' := by
  obtain ⟨xs, ex⟩ : ∃ xs, d = .lst xs := by obtain ⟨a, b, c, e, _⟩ := hB; exact ⟨_, e⟩
  subst ex
  refine w_def (σ := [.ln (.lst xs), .fz l]) rfl ?_
  unfold F_l_of
  repeat (first | refine s_seq ?_ | refine s_nil ?_ | refine s_set ?_ | refine s_if ?_ | refine s_ret ?_ | refine s_retV rfl ?_ | refine s_retO rfl ?_ | refine s_expr ?_ | refine s_unp ?_ | refine s_star ?_ | refine s_par ?_ | refine s_put ?_ | refine s_unpAt ?_ | refine p_k ⟨_, rfl, ?_⟩ | refine w_rnil ?_ | refine w_rcons ?_ | refine w_c ?_ | refine w_var rfl ?_ | refine w_varO rfl ?_ | refine w_nil ?_ | refine w_s rfl ?_ | refine w_v ?_ | refine w_prim ?_ | refine w_call ?_ | refine w_callT ?_ | refine w_methV ?_ | refine w_dnil ?_ | refine w_dcons ?_ | refine w_tup ?_ | refine w_lst ?_ | refine w_if ?_ | refine w_and ?_ | refine w_or ?_ | refine w_not ?_ | refine w_chain ?_ | refine w_sl ?_ | refine w_as rfl ?_ | refine w_av ?_ | refine w_bno ?_ | refine w_bat ?_ | refine w_fapp rfl ?_ | refine t_bl ?_ | refine t_val ?_ | refine t_and ?_ | refine t_or ?_ | refine t_not ?_ | refine i_ex ?_ | refine i_fz rfl rfl ?_ | refine i_rng ?_ | refine W.mk ?_ | refine ⟨_, _, rfl, rfl, ?_⟩ | refine ⟨_, rfl, ?_⟩)
  refine ⟨_, _, rfl, pLen_ok e, ?_⟩
  repeat (first | refine s_seq ?_ | refine s_nil ?_ | refine s_set ?_ | refine s_if ?_ | refine s_ret ?_ | refine s_retV rfl ?_ | refine s_retO rfl ?_ | refine s_expr ?_ | refine s_unp ?_ | refine s_star ?_ | refine s_par ?_ | refine s_put ?_ | refine s_unpAt ?_ | refine p_k ⟨_, rfl, ?_⟩ | refine w_rnil ?_ | refine w_rcons ?_ | refine w_c ?_ | refine w_var rfl ?_ | refine w_varO rfl ?_ | refine w_nil ?_ | refine w_s rfl ?_ | refine w_v ?_ | refine w_prim ?_ | refine w_call ?_ | refine w_callT ?_ | refine w_methV ?_ | refine w_dnil ?_ | refine w_dcons ?_ | refine w_tup ?_ | refine w_lst ?_ | refine w_if ?_ | refine w_and ?_ | refine w_or ?_ | refine w_not ?_ | refine w_chain ?_ | refine w_sl ?_ | refine w_as rfl ?_ | refine w_av ?_ | refine w_bno ?_ | refine w_bat ?_ | refine w_fapp rfl ?_ | refine t_bl ?_ | refine t_val ?_ | refine t_and ?_ | refine t_or ?_ | refine t_not ?_ | refine i_ex ?_ | refine i_fz rfl rfl ?_ | refine i_rng ?_ | refine W.mk ?_ | refine ⟨_, _, rfl, rfl, ?_⟩ | refine ⟨_, rfl, ?_⟩)
  refine ⟨rfl, _, rfl, (take_spec (k := 2) hB hn (by omega) (by omega)).mono ?_⟩
  rintro _ _ _ ⟨r, d', rfl, rfl, rfl, hB', r0, r1⟩
  refine ⟨_, rfl, ?_⟩
  obtain ⟨x, h2, h3, h4⟩ := atI_ok (xs := ds) r0 r1
  repeat (first | refine s_seq ?_ | refine s_nil ?_ | refine s_set ?_ | refine s_if ?_ | refine s_ret ?_ | refine s_retV rfl ?_ | refine s_retO rfl ?_ | refine s_expr ?_ | refine s_unp ?_ | refine s_star ?_ | refine s_par ?_ | refine s_put ?_ | refine s_unpAt ?_ | refine p_k ⟨_, rfl, ?_⟩ | refine w_rnil ?_ | refine w_rcons ?_ | refine w_c ?_ | refine w_var rfl ?_ | refine w_varO rfl ?_ | refine w_nil ?_ | refine w_s rfl ?_ | refine w_v ?_ | refine w_prim ?_ | refine w_call ?_ | refine w_callT ?_ | refine w_methV ?_ | refine w_dnil ?_ | refine w_dcons ?_ | refine w_tup ?_ | refine w_lst ?_ | refine w_if ?_ | refine w_and ?_ | refine w_or ?_ | refine w_not ?_ | refine w_chain ?_ | refine w_sl ?_ | refine w_as rfl ?_ | refine w_av ?_ | refine w_bno ?_ | refine w_bat ?_ | refine w_fapp rfl ?_ | refine t_bl ?_ | refine t_val ?_ | refine t_and ?_ | refine t_or ?_ | refine t_not ?_ | refine i_ex ?_ | refine i_fz rfl rfl ?_ | refine i_rng ?_ | refine W.mk ?_ | refine ⟨_, _, rfl, rfl, ?_⟩ | refine ⟨_, rfl, ?_⟩)
  refine ⟨_, _, rfl, pIx_ok e h2, ?_⟩
  repeat (first | refine s_seq ?_ | refine s_nil ?_ | refine s_set ?_ | refine s_if ?_ | refine s_ret ?_ | refine s_retV rfl ?_ | refine s_retO rfl ?_ | refine s_expr ?_ | refine s_unp ?_ | refine s_star ?_ | refine s_par ?_ | refine s_put ?_ | refine s_unpAt ?_ | refine p_k ⟨_, rfl, ?_⟩ | refine w_rnil ?_ | refine w_rcons ?_ | refine w_c ?_ | refine w_var rfl ?_ | refine w_varO rfl ?_ | refine w_nil ?_ | refine w_s rfl ?_ | refine w_v ?_ | refine w_prim ?_ | refine w_call ?_ | refine w_callT ?_ | refine w_methV ?_ | refine w_dnil ?_ | refine w_dcons ?_ | refine w_tup ?_ | refine w_lst ?_ | refine w_if ?_ | refine w_and ?_ | refine w_or ?_ | refine w_not ?_ | refine w_chain ?_ | refine w_sl ?_ | refine w_as rfl ?_ | refine w_av ?_ | refine w_bno ?_ | refine w_bat ?_ | refine w_fapp rfl ?_ | refine t_bl ?_ | refine t_val ?_ | refine t_and ?_ | refine t_or ?_ | refine t_not ?_ | refine i_ex ?_ | refine i_fz rfl rfl ?_ | refine i_rng ?_ | refine W.mk ?_ | refine ⟨_, _, rfl, rfl, ?_⟩ | refine ⟨_, rfl, ?_⟩)
  exact ⟨rfl, h3, _, rfl, hB'⟩
end L26
set_option autoImplicit false
set_option Elab.async false
set_option linter.all false
set_option maxRecDepth 100000
set_option pp.maxSteps 500
set_option pp.deepTerms false
namespace L26
open PySem L2 Wt
theorem Bx.lst {n : Nat} {d : D} (h : Bx n d) : ∃ xs, d = .lst xs := by
  obtain ⟨a, b, c, e, _⟩ := h
  exact ⟨_, e⟩
/-- a state's first slot holds the box -/
def tk (n : Nat) (s : Stt) (rest : List Sl) : Prop := ∃ xs, s = .ln (.lst xs) :: rest ∧ Bx n (.lst xs)
set_option maxHeartbeats 2000000 in
theorem some_spec {n : Nat} {d : D} {ds : List D} {least : Int} (hB : Bx n d) (hn : n + ds.length < 1000000000) (hl : ds.length ≤ 1000) (h0 : 0 ≤ least) :
    Wo (G_l_some [d, .lst ds, .int least]) fun v _ refs => ∃ es d', v = .lst es ∧ es.Sublist ds ∧ (least ≤ ds.length → least ≤ es.length) ∧ refs = [d'] ∧ Bx (n + ds.length) d' := by
  obtain ⟨xs, ex⟩ := hB.lst
  subst ex
  refine w_def (σ := [.ln (.lst xs), .fz (.lst ds), .fz (.int least), .no, .no]) rfl ?_
  unfold F_l_some
  repeat (first | refine s_seq ?_ | refine s_nil ?_ | refine s_set ?_ | refine s_if ?_ | refine s_ret ?_ | refine s_retV rfl ?_ | refine s_retO rfl ?_ | refine s_expr ?_ | refine s_unp ?_ | refine s_star ?_ | refine s_par ?_ | refine s_put ?_ | refine s_unpAt ?_ | refine p_k ⟨_, rfl, ?_⟩ | refine w_rnil ?_ | refine w_rcons ?_ | refine w_c ?_ | refine w_var rfl ?_ | refine w_varO rfl ?_ | refine w_nil ?_ | refine w_s rfl ?_ | refine w_v ?_ | refine w_prim ?_ | refine w_call ?_ | refine w_callT ?_ | refine w_methV ?_ | refine w_dnil ?_ | refine w_dcons ?_ | refine w_tup ?_ | refine w_lst ?_ | refine w_if ?_ | refine w_and ?_ | refine w_or ?_ | refine w_not ?_ | refine w_chain ?_ | refine w_sl ?_ | refine w_as rfl ?_ | refine w_av ?_ | refine w_bno ?_ | refine w_bat ?_ | refine w_fapp rfl ?_ | refine t_bl ?_ | refine t_val ?_ | refine t_and ?_ | refine t_or ?_ | refine t_not ?_ | refine i_ex ?_ | refine i_fz rfl rfl ?_ | refine i_rng ?_ | refine W.mk ?_ | refine ⟨_, _, rfl, rfl, ?_⟩ | refine ⟨_, rfl, ?_⟩)
  refine w_lc ?_
  refine i_fz rfl rfl ?_
  refine ⟨rfl, fun i acc s => acc.Sublist (ds.take i) ∧ ∃ xs a, s = [.ln (.lst xs), .fz (.lst ds), .fz (.int least), .no, a] ∧ Bx (n + i) (.lst xs) ∧ Free a, ⟨by simp, xs, .no, rfl, hB, .no⟩, ?_, ?_⟩
  · rintro i d acc s hd ⟨hs, xs, a, rfl, hB, fa⟩
    have hlt : i < ds.length := (List.getElem?_eq_some_iff.mp hd).1
    have e1 : ds.take (i + 1) = ds.take i ++ [d] := by rw [List.take_add_one, hd]; rfl
    have hz : acc.length ≤ 1000 := by
      have := hs.length_le
      rw [List.length_take] at this
      omega
    refine ⟨_, rfl, ?_⟩
    repeat (first | refine s_seq ?_ | refine s_nil ?_ | refine s_set ?_ | refine s_if ?_ | refine s_ret ?_ | refine s_retV rfl ?_ | refine s_retO rfl ?_ | refine s_expr ?_ | refine s_unp ?_ | refine s_star ?_ | refine s_par ?_ | refine s_put ?_ | refine s_unpAt ?_ | refine p_k ⟨_, rfl, ?_⟩ | refine w_rnil ?_ | refine w_rcons ?_ | refine w_c ?_ | refine w_var rfl ?_ | refine w_varO rfl ?_ | refine w_nil ?_ | refine w_s rfl ?_ | refine w_v ?_ | refine w_prim ?_ | refine w_call ?_ | refine w_callT ?_ | refine w_methV ?_ | refine w_dnil ?_ | refine w_dcons ?_ | refine w_tup ?_ | refine w_lst ?_ | refine w_if ?_ | refine w_and ?_ | refine w_or ?_ | refine w_not ?_ | refine w_chain ?_ | refine w_sl ?_ | refine w_as rfl ?_ | refine w_av ?_ | refine w_bno ?_ | refine w_bat ?_ | refine w_fapp rfl ?_ | refine t_bl ?_ | refine t_val ?_ | refine t_and ?_ | refine t_or ?_ | refine t_not ?_ | refine i_ex ?_ | refine i_fz rfl rfl ?_ | refine i_rng ?_ | refine W.mk ?_ | refine ⟨_, _, rfl, rfl, ?_⟩ | refine ⟨_, rfl, ?_⟩)
    refine ⟨rfl, _, rfl, (take_spec (k := 2) hB (by omega) (by decide) (by decide)).mono ?_⟩
    rintro _ _ _ ⟨r, d', rfl, rfl, rfl, hB', r0, r1⟩
    obtain ⟨xs', ex⟩ := hB'.lst
    subst ex
    refine ⟨_, rfl, ?_⟩
    repeat (first | refine s_seq ?_ | refine s_nil ?_ | refine s_set ?_ | refine s_if ?_ | refine s_ret ?_ | refine s_retV rfl ?_ | refine s_retO rfl ?_ | refine s_expr ?_ | refine s_unp ?_ | refine s_star ?_ | refine s_par ?_ | refine s_put ?_ | refine s_unpAt ?_ | refine p_k ⟨_, rfl, ?_⟩ | refine w_rnil ?_ | refine w_rcons ?_ | refine w_c ?_ | refine w_var rfl ?_ | refine w_varO rfl ?_ | refine w_nil ?_ | refine w_s rfl ?_ | refine w_v ?_ | refine w_prim ?_ | refine w_call ?_ | refine w_callT ?_ | refine w_methV ?_ | refine w_dnil ?_ | refine w_dcons ?_ | refine w_tup ?_ | refine w_lst ?_ | refine w_if ?_ | refine w_and ?_ | refine w_or ?_ | refine w_not ?_ | refine w_chain ?_ | refine w_sl ?_ | refine w_as rfl ?_ | refine w_av ?_ | refine w_bno ?_ | refine w_bat ?_ | refine w_fapp rfl ?_ | refine t_bl ?_ | refine t_val ?_ | refine t_and ?_ | refine t_or ?_ | refine t_not ?_ | refine i_ex ?_ | refine i_fz rfl rfl ?_ | refine i_rng ?_ | refine W.mk ?_ | refine ⟨_, _, rfl, rfl, ?_⟩ | refine ⟨_, rfl, ?_⟩)
    by_cases c : r = 0
    · subst c
      refine ifT rfl ?_
      repeat (first | refine s_seq ?_ | refine s_nil ?_ | refine s_set ?_ | refine s_if ?_ | refine s_ret ?_ | refine s_retV rfl ?_ | refine s_retO rfl ?_ | refine s_expr ?_ | refine s_unp ?_ | refine s_star ?_ | refine s_par ?_ | refine s_put ?_ | refine s_unpAt ?_ | refine p_k ⟨_, rfl, ?_⟩ | refine w_rnil ?_ | refine w_rcons ?_ | refine w_c ?_ | refine w_var rfl ?_ | refine w_varO rfl ?_ | refine w_nil ?_ | refine w_s rfl ?_ | refine w_v ?_ | refine w_prim ?_ | refine w_call ?_ | refine w_callT ?_ | refine w_methV ?_ | refine w_dnil ?_ | refine w_dcons ?_ | refine w_tup ?_ | refine w_lst ?_ | refine w_if ?_ | refine w_and ?_ | refine w_or ?_ | refine w_not ?_ | refine w_chain ?_ | refine w_sl ?_ | refine w_as rfl ?_ | refine w_av ?_ | refine w_bno ?_ | refine w_bat ?_ | refine w_fapp rfl ?_ | refine t_bl ?_ | refine t_val ?_ | refine t_and ?_ | refine t_or ?_ | refine t_not ?_ | refine i_ex ?_ | refine i_fz rfl rfl ?_ | refine i_rng ?_ | refine W.mk ?_ | refine ⟨_, _, rfl, rfl, ?_⟩ | refine ⟨_, rfl, ?_⟩)
      exact ⟨by have := sizeLine_eq; omega, by rw [e1]; exact hs.append (List.Sublist.refl _), xs', _, rfl, hB', .fz⟩
    · refine ifF (by show ¬ ((r == 0) = true); simpa using c) ?_
      exact ⟨by rw [e1]; exact hs.trans (List.sublist_append_left ..), xs', _, rfl, hB', .fz⟩
  · rintro acc s ⟨hs, xs, a, rfl, hB, fa⟩
    rw [List.take_length] at hs
    repeat (first | refine s_seq ?_ | refine s_nil ?_ | refine s_set ?_ | refine s_if ?_ | refine s_ret ?_ | refine s_retV rfl ?_ | refine s_retO rfl ?_ | refine s_expr ?_ | refine s_unp ?_ | refine s_star ?_ | refine s_par ?_ | refine s_put ?_ | refine s_unpAt ?_ | refine p_k ⟨_, rfl, ?_⟩ | refine w_rnil ?_ | refine w_rcons ?_ | refine w_c ?_ | refine w_var rfl ?_ | refine w_varO rfl ?_ | refine w_nil ?_ | refine w_s rfl ?_ | refine w_v ?_ | refine w_prim ?_ | refine w_call ?_ | refine w_callT ?_ | refine w_methV ?_ | refine w_dnil ?_ | refine w_dcons ?_ | refine w_tup ?_ | refine w_lst ?_ | refine w_if ?_ | refine w_and ?_ | refine w_or ?_ | refine w_not ?_ | refine w_chain ?_ | refine w_sl ?_ | refine w_as rfl ?_ | refine w_av ?_ | refine w_bno ?_ | refine w_bat ?_ | refine w_fapp rfl ?_ | refine t_bl ?_ | refine t_val ?_ | refine t_and ?_ | refine t_or ?_ | refine t_not ?_ | refine i_ex ?_ | refine i_fz rfl rfl ?_ | refine i_rng ?_ | refine W.mk ?_ | refine ⟨_, _, rfl, rfl, ?_⟩ | refine ⟨_, rfl, ?_⟩)
    by_cases c : least ≤ acc.length
    · rw [if_pos (decide_eq_true c)]
      repeat (first | refine s_seq ?_ | refine s_nil ?_ | refine s_set ?_ | refine s_if ?_ | refine s_ret ?_ | refine s_retV rfl ?_ | refine s_retO rfl ?_ | refine s_expr ?_ | refine s_unp ?_ | refine s_star ?_ | refine s_par ?_ | refine s_put ?_ | refine s_unpAt ?_ | refine p_k ⟨_, rfl, ?_⟩ | refine w_rnil ?_ | refine w_rcons ?_ | refine w_c ?_ | refine w_var rfl ?_ | refine w_varO rfl ?_ | refine w_nil ?_ | refine w_s rfl ?_ | refine w_v ?_ | refine w_prim ?_ | refine w_call ?_ | refine w_callT ?_ | refine w_methV ?_ | refine w_dnil ?_ | refine w_dcons ?_ | refine w_tup ?_ | refine w_lst ?_ | refine w_if ?_ | refine w_and ?_ | refine w_or ?_ | refine w_not ?_ | refine w_chain ?_ | refine w_sl ?_ | refine w_as rfl ?_ | refine w_av ?_ | refine w_bno ?_ | refine w_bat ?_ | refine w_fapp rfl ?_ | refine t_bl ?_ | refine t_val ?_ | refine t_and ?_ | refine t_or ?_ | refine t_not ?_ | refine i_ex ?_ | refine i_fz rfl rfl ?_ | refine i_rng ?_ | refine W.mk ?_ | refine ⟨_, _, rfl, rfl, ?_⟩ | refine ⟨_, rfl, ?_⟩)
      exact ⟨acc, _, rfl, hs, fun _ => c, rfl, hB⟩
    · rw [if_neg (by simpa using c)]
      repeat (first | refine s_seq ?_ | refine s_nil ?_ | refine s_set ?_ | refine s_if ?_ | refine s_ret ?_ | refine s_retV rfl ?_ | refine s_retO rfl ?_ | refine s_expr ?_ | refine s_unp ?_ | refine s_star ?_ | refine s_par ?_ | refine s_put ?_ | refine s_unpAt ?_ | refine p_k ⟨_, rfl, ?_⟩ | refine w_rnil ?_ | refine w_rcons ?_ | refine w_c ?_ | refine w_var rfl ?_ | refine w_varO rfl ?_ | refine w_nil ?_ | refine w_s rfl ?_ | refine w_v ?_ | refine w_prim ?_ | refine w_call ?_ | refine w_callT ?_ | refine w_methV ?_ | refine w_dnil ?_ | refine w_dcons ?_ | refine w_tup ?_ | refine w_lst ?_ | refine w_if ?_ | refine w_and ?_ | refine w_or ?_ | refine w_not ?_ | refine w_chain ?_ | refine w_sl ?_ | refine w_as rfl ?_ | refine w_av ?_ | refine w_bno ?_ | refine w_bat ?_ | refine w_fapp rfl ?_ | refine t_bl ?_ | refine t_val ?_ | refine t_and ?_ | refine t_or ?_ | refine t_not ?_ | refine i_ex ?_ | refine i_fz rfl rfl ?_ | refine i_rng ?_ | refine W.mk ?_ | refine ⟨_, _, rfl, rfl, ?_⟩ | refine ⟨_, rfl, ?_⟩)
      refine ⟨_, _, rfl, ?_, ?_, rfl, hB⟩
      · unfold cutD
        exact (List.take_sublist ..).trans (List.drop_sublist ..)
      · intro h
        unfold cutD
        rw [HT.sIx_none]
        obtain ⟨m, rfl⟩ := Int.eq_ofNat_of_zero_le h0
        show (m : Int) ≤ ((List.take (HT.sIx ds.length ds.length (some (m : Int)) - 0) (List.drop 0 ds)).length : Int)
        rw [HT.sIx_nat, List.length_take, List.drop_zero]
        omega
end L26
set_option autoImplicit false
set_option Elab.async false
set_option linter.all false
set_option maxRecDepth 100000
set_option pp.maxSteps 500
set_option pp.deepTerms false
namespace L26
open PySem L2 Wt
/-! ### names -/
def letters : Str := "abcdefghijklmnopqrstuvwxyz"
theorem letter_at {i : Int} (h0 : 0 ≤ i) (h1 : i < 26) : pIx [.str letters, .int i] = some ⟨.str ⟨#[97 + i.toNat]⟩, false⟩ := by
  obtain ⟨m, rfl⟩ := Int.eq_ofNat_of_zero_le h0
  have hm : m < 26 := by omega
  have key : ∀ m, m < 26 → pIx [.str letters, .int (m : Nat)] = some ⟨.str ⟨#[97 + m]⟩, false⟩ := by
    intro m hm
    have e : L2.atI letters.cps.toList (m : Int) = some (97 + m) := by
      refine atI_nat ?_
      have : letters.cps.toList = (List.range 26).map (97 + ·) := by decide
      rw [this, List.getElem?_map, List.getElem?_range hm]; rfl
    show (if letters.length ≤ sizeLine then (L2.atI letters.cps.toList (m : Int)).map fun c => (⟨.str ⟨#[c]⟩, false⟩ : RV) else none) = _
    rw [if_pos (by decide), e]; rfl
  exact key m hm
/-- a short text of small signs -/
def okS (k : Nat) (s : Str) : Prop := s.length ≤ k ∧ ∀ c ∈ s.cps.toList, c < 123
theorem okS_app {a b : Str} {j k : Nat} (h1 : okS j a) (h2 : okS k b) : okS (j + k) (a ++ b) := by
  have e : (a ++ b).cps.toList = a.cps.toList ++ b.cps.toList := TL.tl_append a b
  refine ⟨?_, fun c hc => ?_⟩
  · have : (a ++ b).length = a.length + b.length := by
      show (a ++ b).cps.size = a.cps.size + b.cps.size
      rw [← Array.length_toList, e, List.length_append, Array.length_toList, Array.length_toList]
    have := h1.1; have := h2.1; omega
  · rw [e, List.mem_append] at hc
    exact hc.elim (h1.2 c) (h2.2 c)
theorem okS_one {m : Nat} (h : m < 26) : okS 1 (⟨#[97 + m]⟩ : Str) := ⟨by show 1 ≤ 1; omega, fun c hc => by simp at hc; omega⟩
theorem small_of {i : Int} (h0 : 0 ≤ i) (h1 : i < 1000000) : small i = true := by
  unfold small; simp; omega
theorem join_ok : ∀ ys : List Str, (∀ y ∈ ys, okS 1 y) → okS ys.length (Txt.join "" ys)
  | [], _ => by rw [TL.join_eq]; exact ⟨by decide, fun c hc => by cases hc⟩
  | y :: ys, h => by
    have ih := join_ok ys fun z hz => h z (List.mem_cons_of_mem _ hz)
    rw [TL.join_eq] at ih ⊢
    have e : Str.join "" (y :: ys) = y ++ Str.join "" ys := by
      refine TL.ext_tl ?_
      rw [TL.tl_append, TL.tl_join, TL.tl_join]
      cases ys with
      | nil => simp [TL.joinL]
      | cons z r => simp only [List.map_cons, TL.joinL]; rfl
    rw [e, List.length_cons, Nat.add_comm]
    exact okS_app (h y (List.mem_cons_self ..)) ih
theorem strsOf_map : ∀ ys : List Str, strsOf (ys.map D.str) = some ys
  | [] => rfl
  | y :: ys => by
    rw [List.map_cons]
    show (strsOf (ys.map D.str)).map (y :: ·) = _
    rw [strsOf_map ys]; rfl
theorem join_prim {ys : List Str} (h : ∀ y ∈ ys, okS 1 y) (hl : ys.length ≤ 1000) : pJoin [.str "", .lst (ys.map D.str)] = some ⟨.str (Txt.join "" ys), false⟩ := by
  have hs : (ys.map fun y : Str => y.length).sum ≤ ys.length := by
    clear hl
    induction ys with
    | nil => simp
    | cons y r ih =>
      have h1 := (h y (List.mem_cons_self ..)).1
      have h2 := ih fun z hz => h z (List.mem_cons_of_mem _ hz)
      simp only [List.map_cons, List.sum_cons, List.length_cons]
      omega
  have e0 : ("" : Str).length = 0 := by decide
  show (match strsOf (ys.map D.str) with
    | some ys => if (ys.map fun y : Str => y.length).sum + ys.length * ("" : Str).length ≤ 16777216 then some (⟨.str (Txt.join "" ys), false⟩ : RV) else none
    | none => none) = _
  rw [strsOf_map]
  show (if (ys.map fun y : Str => y.length).sum + ys.length * ("" : Str).length ≤ 16777216 then some (⟨.str (Txt.join "" ys), false⟩ : RV) else none) = _
  rw [if_pos (by rw [e0]; omega)]
end L26
set_option autoImplicit false
set_option Elab.async false
set_option linter.all false
set_option maxRecDepth 100000
set_option pp.maxSteps 500
set_option pp.deepTerms false
namespace L26
open PySem L2 Wt
/-- the k-th name -/
def nmOf (stem : Str) (first step longer : Int) (k : Nat) : Str :=
  (stem ++ ⟨#[97 + ((first + step * (if longer = 1 then (k : Int) / 2 else k)) % 26).toNat]⟩) ++ (if longer = 1 ∧ k % 2 = 1 then ("ab" : Str) else ("" : Str))
theorem tl_nm (stem : Str) (first step longer : Int) (k : Nat) : (nmOf stem first step longer k).cps.toList = stem.cps.toList ++ [97 + ((first + step * (if longer = 1 then (k : Int) / 2 else k)) % 26).toNat] ++ (if longer = 1 ∧ k % 2 = 1 then [97, 98] else []) := by
  unfold nmOf
  have t : ∀ a b : Str, (a ++ b).cps.toList = a.cps.toList ++ b.cps.toList := fun a b => TL.tl_append a b
  rw [t, t]
  by_cases c : longer = 1 ∧ k % 2 = 1
  · rw [if_pos c, if_pos c]; rfl
  · rw [if_neg c, if_neg c]; rfl
theorem nm_inj {stem : Str} {first step longer : Int} {j k : Nat} (hf : 0 ≤ first) (hs : step = 1 ∨ step = 3 ∨ step = 25) (hl : longer = 0 ∨ longer = 1) (hj : j < 26) (hk : k < 26) (e : nmOf stem first step longer j = nmOf stem first step longer k) : j = k := by
  have e2 := congrArg (fun s : Str => s.cps.toList) e
  simp only [tl_nm, List.append_assoc] at e2
  have e3 := List.append_cancel_left e2
  rw [List.singleton_append, List.singleton_append] at e3
  injection e3 with e4 e5
  rcases hl with rfl | rfl
  · simp only [show ¬ ((0 : Int) = 1) by decide, if_false] at e4
    rcases hs with rfl | rfl | rfl <;> omega
  · simp only [if_true, true_and] at e4 e5
    have p : (j % 2 = 1) ↔ (k % 2 = 1) := by
      by_cases c1 : j % 2 = 1 <;> by_cases c2 : k % 2 = 1 <;> simp [c1, c2] at e5 ⊢
    rcases hs with rfl | rfl | rfl <;> omega
theorem nm_ok {stem : Str} {first step longer : Int} {k n : Nat} (h : okS n stem) : okS (n + 1 + 2) (nmOf stem first step longer k) := by
  unfold nmOf
  refine okS_app (okS_app h (okS_one ?_)) ?_
  · have := Int.emod_lt_of_pos (first + step * (if longer = 1 then (k : Int) / 2 else k)) (show (0 : Int) < 26 by decide)
    have := Int.emod_nonneg (first + step * (if longer = 1 then (k : Int) / 2 else k)) (show (26 : Int) ≠ 0 by decide)
    omega
  · split
    · exact ⟨by decide, by decide⟩
    · exact ⟨by decide, by decide⟩
theorem okS.mono {j k : Nat} {s : Str} (h : okS j s) (hk : j ≤ k) : okS k s := ⟨by have := h.1; omega, h.2⟩
theorem nodup_map {α β : Type} {f : α → β} {l : List α} (h : l.Nodup) (hi : ∀ a ∈ l, ∀ b ∈ l, f a = f b → a = b) : (l.map f).Nodup := by
  unfold List.Nodup at *
  rw [List.pairwise_map]
  exact h.imp_of_mem fun ha hb n e => n (hi _ ha _ hb e)
theorem ite_merge {α : Type} {c : Prop} [Decidable c] {A B : Wt.R α} {Q X : α → Stt → Prop} (h1 : c → W A X) (h2 : ¬ c → W B X) (h3 : ∀ r s, X r s → Q r s) : if c then W A Q else W B Q := by
  by_cases h : c
  · rw [if_pos h]; exact (h1 h).mono h3
  · rw [if_neg h]; exact (h2 h).mono h3
theorem eqi {i j : Int} : (eqv (.int i) (.int j) = true) = (i = j) := by simp [eqv]
theorem add_str {a b : Str} {j k : Nat} (h1 : okS j a) (h2 : okS k b) (h : j + k ≤ 10000) : pAdd [.str a, .str b] = some ⟨.str (a ++ b), false⟩ := by
  refine if_pos ?_
  have := h1.1
  have := h2.1
  have := sizeLine_eq
  omega
theorem ite_mergeA {α : Type} {c : Prop} [Decidable c] {B : Wt.R α} {a : α} {t : Stt} {Q X : α → Stt → Prop} (h1 : c → W B X) (h2 : ¬ c → X a t) (h3 : ∀ r s, X r s → Q r s) : if c then W B Q else Q a t := by
  by_cases h : c
  · rw [if_pos h]; exact (h1 h).mono h3
  · rw [if_neg h]; exact h3 _ _ (h2 h)
theorem ab_mul (b : Bool) : pMul [.str "ab", .int (if b then 1 else 0)] = some ⟨.str (if b then "ab" else ""), false⟩ := by
  have z : 2 ≤ sizeLine := by rw [sizeLine_eq]; decide
  cases b
  · show (if ("ab" : Str).length ≤ 1000 ∧ 0 < ("ab" : Str).length ∧ (0 : Int) ≤ 1000 ∧ -1000 ≤ (0 : Int) ∧ (strRep "ab" 0).length ≤ sizeLine then some (⟨.str (strRep "ab" 0), false⟩ : RV) else none) = _
    rw [if_pos ⟨by decide, by decide, by decide, by decide, Nat.zero_le _⟩]
    rfl
  · show (if ("ab" : Str).length ≤ 1000 ∧ 0 < ("ab" : Str).length ∧ (1 : Int) ≤ 1000 ∧ -1000 ≤ (1 : Int) ∧ (strRep "ab" 1).length ≤ sizeLine then some (⟨.str (strRep "ab" 1), false⟩ : RV) else none) = _
    rw [if_pos ⟨by decide, by decide, by decide, by decide, z⟩]
    rfl
theorem ab_ok (b : Bool) : okS 2 (if b then ("ab" : Str) else "") := by
  cases b
  · exact ⟨by decide, by decide⟩
  · exact ⟨by decide, by decide⟩
set_option maxHeartbeats 4000000 in
theorem names_spec {n : Nat} {d : D} (hB : Bx n d) (hn : n < 100000000) :
    Wo (G_l_names [d, .int 26]) fun v fr refs => ∃ (ns : List Str) (d' : D), v = .lst (ns.map .str) ∧ fr = true ∧ refs = [d'] ∧ ns.length = 26 ∧ ns.Nodup ∧ (∀ s ∈ ns, okS 8 s) ∧ Bx (n + 20) d' := by
  obtain ⟨xs, ex⟩ := hB.lst
  subst ex
  refine w_def (σ := [.ln (.lst xs), .fz (.int 26), .no, .no, .no, .no, .no, .no, .no, .no, .no]) rfl ?_
  unfold F_l_names
  repeat (first | refine s_seq ?_ | refine s_nil ?_ | refine s_set ?_ | refine s_if ?_ | refine s_ret ?_ | refine s_retV rfl ?_ | refine s_retO rfl ?_ | refine s_expr ?_ | refine s_unp ?_ | refine s_star ?_ | refine s_par ?_ | refine s_put ?_ | refine s_unpAt ?_ | refine p_k ⟨_, rfl, ?_⟩ | refine w_rnil ?_ | refine w_rcons ?_ | refine w_c ?_ | refine w_var rfl ?_ | refine w_varO rfl ?_ | refine w_nil ?_ | refine w_s rfl ?_ | refine w_v ?_ | refine w_prim ?_ | refine w_call ?_ | refine w_callT ?_ | refine w_methV ?_ | refine w_dnil ?_ | refine w_dcons ?_ | refine w_tup ?_ | refine w_lst ?_ | refine w_if ?_ | refine w_and ?_ | refine w_or ?_ | refine w_not ?_ | refine w_chain ?_ | refine w_sl ?_ | refine w_as rfl ?_ | refine w_av ?_ | refine w_bno ?_ | refine w_bat ?_ | refine w_fapp rfl ?_ | refine t_bl ?_ | refine t_val ?_ | refine t_and ?_ | refine t_or ?_ | refine t_not ?_ | refine i_ex ?_ | refine i_fz rfl rfl ?_ | refine i_rng ?_ | refine W.mk ?_ | refine ⟨_, _, rfl, rfl, ?_⟩ | refine ⟨_, rfl, ?_⟩)
  refine ⟨rfl, _, rfl, (take_spec (k := 2) hB (by omega) (by omega) (by omega)).mono ?_⟩
  rintro _ _ _ ⟨f, _, rfl, rfl, rfl, hB1, f0, f1⟩
  obtain ⟨xhB1, ex⟩ := hB1.lst
  subst ex
  refine ⟨_, rfl, ?_⟩
  repeat (first | refine s_seq ?_ | refine s_nil ?_ | refine s_set ?_ | refine s_if ?_ | refine s_ret ?_ | refine s_retV rfl ?_ | refine s_retO rfl ?_ | refine s_expr ?_ | refine s_unp ?_ | refine s_star ?_ | refine s_par ?_ | refine s_put ?_ | refine s_unpAt ?_ | refine p_k ⟨_, rfl, ?_⟩ | refine w_rnil ?_ | refine w_rcons ?_ | refine w_c ?_ | refine w_var rfl ?_ | refine w_varO rfl ?_ | refine w_nil ?_ | refine w_s rfl ?_ | refine w_v ?_ | refine w_prim ?_ | refine w_call ?_ | refine w_callT ?_ | refine w_methV ?_ | refine w_dnil ?_ | refine w_dcons ?_ | refine w_tup ?_ | refine w_lst ?_ | refine w_if ?_ | refine w_and ?_ | refine w_or ?_ | refine w_not ?_ | refine w_chain ?_ | refine w_sl ?_ | refine w_as rfl ?_ | refine w_av ?_ | refine w_bno ?_ | refine w_bat ?_ | refine w_fapp rfl ?_ | refine t_bl ?_ | refine t_val ?_ | refine t_and ?_ | refine t_or ?_ | refine t_not ?_ | refine i_ex ?_ | refine i_fz rfl rfl ?_ | refine i_rng ?_ | refine W.mk ?_ | refine ⟨_, _, rfl, rfl, ?_⟩ | refine ⟨_, rfl, ?_⟩)
  refine ⟨by have := sizeLine_eq; show 0 ≤ sizeLine; omega, ?_⟩
  repeat (first | refine s_seq ?_ | refine s_nil ?_ | refine s_set ?_ | refine s_if ?_ | refine s_ret ?_ | refine s_retV rfl ?_ | refine s_retO rfl ?_ | refine s_expr ?_ | refine s_unp ?_ | refine s_star ?_ | refine s_par ?_ | refine s_put ?_ | refine s_unpAt ?_ | refine p_k ⟨_, rfl, ?_⟩ | refine w_rnil ?_ | refine w_rcons ?_ | refine w_c ?_ | refine w_var rfl ?_ | refine w_varO rfl ?_ | refine w_nil ?_ | refine w_s rfl ?_ | refine w_v ?_ | refine w_prim ?_ | refine w_call ?_ | refine w_callT ?_ | refine w_methV ?_ | refine w_dnil ?_ | refine w_dcons ?_ | refine w_tup ?_ | refine w_lst ?_ | refine w_if ?_ | refine w_and ?_ | refine w_or ?_ | refine w_not ?_ | refine w_chain ?_ | refine w_sl ?_ | refine w_as rfl ?_ | refine w_av ?_ | refine w_bno ?_ | refine w_bat ?_ | refine w_fapp rfl ?_ | refine t_bl ?_ | refine t_val ?_ | refine t_and ?_ | refine t_or ?_ | refine t_not ?_ | refine i_ex ?_ | refine i_fz rfl rfl ?_ | refine i_rng ?_ | refine W.mk ?_ | refine ⟨_, _, rfl, rfl, ?_⟩ | refine ⟨_, rfl, ?_⟩)
  refine ⟨rfl, ?_⟩
  repeat (first | refine s_seq ?_ | refine s_nil ?_ | refine s_set ?_ | refine s_if ?_ | refine s_ret ?_ | refine s_retV rfl ?_ | refine s_retO rfl ?_ | refine s_expr ?_ | refine s_unp ?_ | refine s_star ?_ | refine s_par ?_ | refine s_put ?_ | refine s_unpAt ?_ | refine p_k ⟨_, rfl, ?_⟩ | refine w_rnil ?_ | refine w_rcons ?_ | refine w_c ?_ | refine w_var rfl ?_ | refine w_varO rfl ?_ | refine w_nil ?_ | refine w_s rfl ?_ | refine w_v ?_ | refine w_prim ?_ | refine w_call ?_ | refine w_callT ?_ | refine w_methV ?_ | refine w_dnil ?_ | refine w_dcons ?_ | refine w_tup ?_ | refine w_lst ?_ | refine w_if ?_ | refine w_and ?_ | refine w_or ?_ | refine w_not ?_ | refine w_chain ?_ | refine w_sl ?_ | refine w_as rfl ?_ | refine w_av ?_ | refine w_bno ?_ | refine w_bat ?_ | refine w_fapp rfl ?_ | refine t_bl ?_ | refine t_val ?_ | refine t_and ?_ | refine t_or ?_ | refine t_not ?_ | refine i_ex ?_ | refine i_fz rfl rfl ?_ | refine i_rng ?_ | refine W.mk ?_ | refine ⟨_, _, rfl, rfl, ?_⟩ | refine ⟨_, rfl, ?_⟩)
  refine w_lc ?_
  repeat (first | refine s_seq ?_ | refine s_nil ?_ | refine s_set ?_ | refine s_if ?_ | refine s_ret ?_ | refine s_retV rfl ?_ | refine s_retO rfl ?_ | refine s_expr ?_ | refine s_unp ?_ | refine s_star ?_ | refine s_par ?_ | refine s_put ?_ | refine s_unpAt ?_ | refine p_k ⟨_, rfl, ?_⟩ | refine w_rnil ?_ | refine w_rcons ?_ | refine w_c ?_ | refine w_var rfl ?_ | refine w_varO rfl ?_ | refine w_nil ?_ | refine w_s rfl ?_ | refine w_v ?_ | refine w_prim ?_ | refine w_call ?_ | refine w_callT ?_ | refine w_methV ?_ | refine w_dnil ?_ | refine w_dcons ?_ | refine w_tup ?_ | refine w_lst ?_ | refine w_if ?_ | refine w_and ?_ | refine w_or ?_ | refine w_not ?_ | refine w_chain ?_ | refine w_sl ?_ | refine w_as rfl ?_ | refine w_av ?_ | refine w_bno ?_ | refine w_bat ?_ | refine w_fapp rfl ?_ | refine t_bl ?_ | refine t_val ?_ | refine t_and ?_ | refine t_or ?_ | refine t_not ?_ | refine i_ex ?_ | refine i_fz rfl rfl ?_ | refine i_rng ?_ | refine W.mk ?_ | refine ⟨_, _, rfl, rfl, ?_⟩ | refine ⟨_, rfl, ?_⟩)
  refine ⟨rfl, _, rfl, (take_spec (k := 2) hB1 (by omega) (by omega) (by omega)).mono ?_⟩
  rintro _ _ _ ⟨m, _, rfl, rfl, rfl, hB2, m0, m1⟩
  obtain ⟨xhB2, ex⟩ := hB2.lst
  subst ex
  refine ⟨_, rfl, ?_⟩
  repeat (first | refine s_seq ?_ | refine s_nil ?_ | refine s_set ?_ | refine s_if ?_ | refine s_ret ?_ | refine s_retV rfl ?_ | refine s_retO rfl ?_ | refine s_expr ?_ | refine s_unp ?_ | refine s_star ?_ | refine s_par ?_ | refine s_put ?_ | refine s_unpAt ?_ | refine p_k ⟨_, rfl, ?_⟩ | refine w_rnil ?_ | refine w_rcons ?_ | refine w_c ?_ | refine w_var rfl ?_ | refine w_varO rfl ?_ | refine w_nil ?_ | refine w_s rfl ?_ | refine w_v ?_ | refine w_prim ?_ | refine w_call ?_ | refine w_callT ?_ | refine w_methV ?_ | refine w_dnil ?_ | refine w_dcons ?_ | refine w_tup ?_ | refine w_lst ?_ | refine w_if ?_ | refine w_and ?_ | refine w_or ?_ | refine w_not ?_ | refine w_chain ?_ | refine w_sl ?_ | refine w_as rfl ?_ | refine w_av ?_ | refine w_bno ?_ | refine w_bat ?_ | refine w_fapp rfl ?_ | refine t_bl ?_ | refine t_val ?_ | refine t_and ?_ | refine t_or ?_ | refine t_not ?_ | refine i_ex ?_ | refine i_fz rfl rfl ?_ | refine i_rng ?_ | refine W.mk ?_ | refine ⟨_, _, rfl, rfl, ?_⟩ | refine ⟨_, rfl, ?_⟩)
  refine ⟨small_of m0 (by omega), ?_⟩
  obtain ⟨m, rfl⟩ := Int.eq_ofNat_of_zero_le m0
  refine ⟨rfl, fun i acc s => (∃ ys : List Str, acc = ys.map .str ∧ ys.length = i ∧ ∀ y ∈ ys, okS 1 y) ∧ ∃ xs a, s = [.ln (.lst xs), .fz (.int 26), .no, .no, .fz (.str letters), .fz (.int f), .ow (.lst []), .no, .no, .no, a] ∧ Bx (n + 2 + i) (.lst xs) ∧ Free a, ⟨⟨[], rfl, rfl, by simp⟩, _, .no, rfl, hB2, .no⟩, ?_, ?_⟩
  · rintro i d acc s hd ⟨⟨ys, rfl, hl, hy⟩, xs, a, rfl, hB3, fa⟩
    obtain ⟨hi, rfl⟩ := rangeD_get hd
    refine ⟨_, rfl, ?_⟩
    repeat (first | refine s_seq ?_ | refine s_nil ?_ | refine s_set ?_ | refine s_if ?_ | refine s_ret ?_ | refine s_retV rfl ?_ | refine s_retO rfl ?_ | refine s_expr ?_ | refine s_unp ?_ | refine s_star ?_ | refine s_par ?_ | refine s_put ?_ | refine s_unpAt ?_ | refine p_k ⟨_, rfl, ?_⟩ | refine w_rnil ?_ | refine w_rcons ?_ | refine w_c ?_ | refine w_var rfl ?_ | refine w_varO rfl ?_ | refine w_nil ?_ | refine w_s rfl ?_ | refine w_v ?_ | refine w_prim ?_ | refine w_call ?_ | refine w_callT ?_ | refine w_methV ?_ | refine w_dnil ?_ | refine w_dcons ?_ | refine w_tup ?_ | refine w_lst ?_ | refine w_if ?_ | refine w_and ?_ | refine w_or ?_ | refine w_not ?_ | refine w_chain ?_ | refine w_sl ?_ | refine w_as rfl ?_ | refine w_av ?_ | refine w_bno ?_ | refine w_bat ?_ | refine w_fapp rfl ?_ | refine t_bl ?_ | refine t_val ?_ | refine t_and ?_ | refine t_or ?_ | refine t_not ?_ | refine i_ex ?_ | refine i_fz rfl rfl ?_ | refine i_rng ?_ | refine W.mk ?_ | refine ⟨_, _, rfl, rfl, ?_⟩ | refine ⟨_, rfl, ?_⟩)
    refine ⟨rfl, _, rfl, (take_spec (k := 2) hB3 (by omega) (by omega) (by omega)).mono ?_⟩
    rintro _ _ _ ⟨q, _, rfl, rfl, rfl, hB4, q0, q1⟩
    obtain ⟨xhB4, ex⟩ := hB4.lst
    subst ex
    refine ⟨_, rfl, ?_⟩
    repeat (first | refine s_seq ?_ | refine s_nil ?_ | refine s_set ?_ | refine s_if ?_ | refine s_ret ?_ | refine s_retV rfl ?_ | refine s_retO rfl ?_ | refine s_expr ?_ | refine s_unp ?_ | refine s_star ?_ | refine s_par ?_ | refine s_put ?_ | refine s_unpAt ?_ | refine p_k ⟨_, rfl, ?_⟩ | refine w_rnil ?_ | refine w_rcons ?_ | refine w_c ?_ | refine w_var rfl ?_ | refine w_varO rfl ?_ | refine w_nil ?_ | refine w_s rfl ?_ | refine w_v ?_ | refine w_prim ?_ | refine w_call ?_ | refine w_callT ?_ | refine w_methV ?_ | refine w_dnil ?_ | refine w_dcons ?_ | refine w_tup ?_ | refine w_lst ?_ | refine w_if ?_ | refine w_and ?_ | refine w_or ?_ | refine w_not ?_ | refine w_chain ?_ | refine w_sl ?_ | refine w_as rfl ?_ | refine w_av ?_ | refine w_bno ?_ | refine w_bat ?_ | refine w_fapp rfl ?_ | refine t_bl ?_ | refine t_val ?_ | refine t_and ?_ | refine t_or ?_ | refine t_not ?_ | refine i_ex ?_ | refine i_fz rfl rfl ?_ | refine i_rng ?_ | refine W.mk ?_ | refine ⟨_, _, rfl, rfl, ?_⟩ | refine ⟨_, rfl, ?_⟩)
    refine ⟨_, _, rfl, letter_at q0 q1, ?_⟩
    refine ⟨by rw [List.length_map]; have := sizeLine_eq; omega, ⟨ys ++ [_], by rw [List.map_append]; rfl, by simp [hl], ?_⟩, _, _, rfl, hB4, .fz⟩
    intro y hy2
    rcases List.mem_append.mp hy2 with h | h
    · exact hy y h
    · rw [List.mem_singleton.mp h]
      exact okS_one (by omega)
  · rintro acc s ⟨⟨ys, rfl, hl, hy⟩, xs, a, rfl, hB3, fa⟩
    rw [rangeD_lenN] at hl hB3
    repeat (first | refine s_seq ?_ | refine s_nil ?_ | refine s_set ?_ | refine s_if ?_ | refine s_ret ?_ | refine s_retV rfl ?_ | refine s_retO rfl ?_ | refine s_expr ?_ | refine s_unp ?_ | refine s_star ?_ | refine s_par ?_ | refine s_put ?_ | refine s_unpAt ?_ | refine p_k ⟨_, rfl, ?_⟩ | refine w_rnil ?_ | refine w_rcons ?_ | refine w_c ?_ | refine w_var rfl ?_ | refine w_varO rfl ?_ | refine w_nil ?_ | refine w_s rfl ?_ | refine w_v ?_ | refine w_prim ?_ | refine w_call ?_ | refine w_callT ?_ | refine w_methV ?_ | refine w_dnil ?_ | refine w_dcons ?_ | refine w_tup ?_ | refine w_lst ?_ | refine w_if ?_ | refine w_and ?_ | refine w_or ?_ | refine w_not ?_ | refine w_chain ?_ | refine w_sl ?_ | refine w_as rfl ?_ | refine w_av ?_ | refine w_bno ?_ | refine w_bat ?_ | refine w_fapp rfl ?_ | refine t_bl ?_ | refine t_val ?_ | refine t_and ?_ | refine t_or ?_ | refine t_not ?_ | refine i_ex ?_ | refine i_fz rfl rfl ?_ | refine i_rng ?_ | refine W.mk ?_ | refine ⟨_, _, rfl, rfl, ?_⟩ | refine ⟨_, rfl, ?_⟩)
    refine ⟨_, _, rfl, join_prim hy (by omega), ?_⟩
    have hst := join_ok ys hy
    generalize Txt.join "" ys = stem at hst
    repeat (first | refine s_seq ?_ | refine s_nil ?_ | refine s_set ?_ | refine s_if ?_ | refine s_ret ?_ | refine s_retV rfl ?_ | refine s_retO rfl ?_ | refine s_expr ?_ | refine s_unp ?_ | refine s_star ?_ | refine s_par ?_ | refine s_put ?_ | refine s_unpAt ?_ | refine p_k ⟨_, rfl, ?_⟩ | refine w_rnil ?_ | refine w_rcons ?_ | refine w_c ?_ | refine w_var rfl ?_ | refine w_varO rfl ?_ | refine w_nil ?_ | refine w_s rfl ?_ | refine w_v ?_ | refine w_prim ?_ | refine w_call ?_ | refine w_callT ?_ | refine w_methV ?_ | refine w_dnil ?_ | refine w_dcons ?_ | refine w_tup ?_ | refine w_lst ?_ | refine w_if ?_ | refine w_and ?_ | refine w_or ?_ | refine w_not ?_ | refine w_chain ?_ | refine w_sl ?_ | refine w_as rfl ?_ | refine w_av ?_ | refine w_bno ?_ | refine w_bat ?_ | refine w_fapp rfl ?_ | refine t_bl ?_ | refine t_val ?_ | refine t_and ?_ | refine t_or ?_ | refine t_not ?_ | refine i_ex ?_ | refine i_fz rfl rfl ?_ | refine i_rng ?_ | refine W.mk ?_ | refine ⟨_, _, rfl, rfl, ?_⟩ | refine ⟨_, rfl, ?_⟩)
    refine ite_merge (X := fun r t => (∃ stem2 : Str, okS 5 stem2 ∧ r = ⟨.str stem2, false⟩) ∧ t = [.ln (.lst xs), .fz (.int 26), .fz (.str stem), .no, .fz (.str letters), .fz (.int f), .ow (.lst []), .no, .no, .no, .no]) ?_ ?_ ?_
    · intro _
      repeat (first | refine s_seq ?_ | refine s_nil ?_ | refine s_set ?_ | refine s_if ?_ | refine s_ret ?_ | refine s_retV rfl ?_ | refine s_retO rfl ?_ | refine s_expr ?_ | refine s_unp ?_ | refine s_star ?_ | refine s_par ?_ | refine s_put ?_ | refine s_unpAt ?_ | refine p_k ⟨_, rfl, ?_⟩ | refine w_rnil ?_ | refine w_rcons ?_ | refine w_c ?_ | refine w_var rfl ?_ | refine w_varO rfl ?_ | refine w_nil ?_ | refine w_s rfl ?_ | refine w_v ?_ | refine w_prim ?_ | refine w_call ?_ | refine w_callT ?_ | refine w_methV ?_ | refine w_dnil ?_ | refine w_dcons ?_ | refine w_tup ?_ | refine w_lst ?_ | refine w_if ?_ | refine w_and ?_ | refine w_or ?_ | refine w_not ?_ | refine w_chain ?_ | refine w_sl ?_ | refine w_as rfl ?_ | refine w_av ?_ | refine w_bno ?_ | refine w_bat ?_ | refine w_fapp rfl ?_ | refine t_bl ?_ | refine t_val ?_ | refine t_and ?_ | refine t_or ?_ | refine t_not ?_ | refine i_ex ?_ | refine i_fz rfl rfl ?_ | refine i_rng ?_ | refine W.mk ?_ | refine ⟨_, _, rfl, rfl, ?_⟩ | refine ⟨_, rfl, ?_⟩)
      exact ⟨⟨_, ⟨by decide, by decide⟩, rfl⟩, rfl⟩
    · intro _
      repeat (first | refine s_seq ?_ | refine s_nil ?_ | refine s_set ?_ | refine s_if ?_ | refine s_ret ?_ | refine s_retV rfl ?_ | refine s_retO rfl ?_ | refine s_expr ?_ | refine s_unp ?_ | refine s_star ?_ | refine s_par ?_ | refine s_put ?_ | refine s_unpAt ?_ | refine p_k ⟨_, rfl, ?_⟩ | refine w_rnil ?_ | refine w_rcons ?_ | refine w_c ?_ | refine w_var rfl ?_ | refine w_varO rfl ?_ | refine w_nil ?_ | refine w_s rfl ?_ | refine w_v ?_ | refine w_prim ?_ | refine w_call ?_ | refine w_callT ?_ | refine w_methV ?_ | refine w_dnil ?_ | refine w_dcons ?_ | refine w_tup ?_ | refine w_lst ?_ | refine w_if ?_ | refine w_and ?_ | refine w_or ?_ | refine w_not ?_ | refine w_chain ?_ | refine w_sl ?_ | refine w_as rfl ?_ | refine w_av ?_ | refine w_bno ?_ | refine w_bat ?_ | refine w_fapp rfl ?_ | refine t_bl ?_ | refine t_val ?_ | refine t_and ?_ | refine t_or ?_ | refine t_not ?_ | refine i_ex ?_ | refine i_fz rfl rfl ?_ | refine i_rng ?_ | refine W.mk ?_ | refine ⟨_, _, rfl, rfl, ?_⟩ | refine ⟨_, rfl, ?_⟩)
      exact ⟨⟨_, hst.mono (by omega), rfl⟩, rfl⟩
    clear hst
    rintro _ _ ⟨⟨stem2, hst, rfl⟩, rfl⟩
    repeat (first | refine s_seq ?_ | refine s_nil ?_ | refine s_set ?_ | refine s_if ?_ | refine s_ret ?_ | refine s_retV rfl ?_ | refine s_retO rfl ?_ | refine s_expr ?_ | refine s_unp ?_ | refine s_star ?_ | refine s_par ?_ | refine s_put ?_ | refine s_unpAt ?_ | refine p_k ⟨_, rfl, ?_⟩ | refine w_rnil ?_ | refine w_rcons ?_ | refine w_c ?_ | refine w_var rfl ?_ | refine w_varO rfl ?_ | refine w_nil ?_ | refine w_s rfl ?_ | refine w_v ?_ | refine w_prim ?_ | refine w_call ?_ | refine w_callT ?_ | refine w_methV ?_ | refine w_dnil ?_ | refine w_dcons ?_ | refine w_tup ?_ | refine w_lst ?_ | refine w_if ?_ | refine w_and ?_ | refine w_or ?_ | refine w_not ?_ | refine w_chain ?_ | refine w_sl ?_ | refine w_as rfl ?_ | refine w_av ?_ | refine w_bno ?_ | refine w_bat ?_ | refine w_fapp rfl ?_ | refine t_bl ?_ | refine t_val ?_ | refine t_and ?_ | refine t_or ?_ | refine t_not ?_ | refine i_ex ?_ | refine i_fz rfl rfl ?_ | refine i_rng ?_ | refine W.mk ?_ | refine ⟨_, _, rfl, rfl, ?_⟩ | refine ⟨_, rfl, ?_⟩)
    refine ⟨by have := sizeLine_eq; show 3 ≤ sizeLine; omega, ?_⟩
    repeat (first | refine s_seq ?_ | refine s_nil ?_ | refine s_set ?_ | refine s_if ?_ | refine s_ret ?_ | refine s_retV rfl ?_ | refine s_retO rfl ?_ | refine s_expr ?_ | refine s_unp ?_ | refine s_star ?_ | refine s_par ?_ | refine s_put ?_ | refine s_unpAt ?_ | refine p_k ⟨_, rfl, ?_⟩ | refine w_rnil ?_ | refine w_rcons ?_ | refine w_c ?_ | refine w_var rfl ?_ | refine w_varO rfl ?_ | refine w_nil ?_ | refine w_s rfl ?_ | refine w_v ?_ | refine w_prim ?_ | refine w_call ?_ | refine w_callT ?_ | refine w_methV ?_ | refine w_dnil ?_ | refine w_dcons ?_ | refine w_tup ?_ | refine w_lst ?_ | refine w_if ?_ | refine w_and ?_ | refine w_or ?_ | refine w_not ?_ | refine w_chain ?_ | refine w_sl ?_ | refine w_as rfl ?_ | refine w_av ?_ | refine w_bno ?_ | refine w_bat ?_ | refine w_fapp rfl ?_ | refine t_bl ?_ | refine t_val ?_ | refine t_and ?_ | refine t_or ?_ | refine t_not ?_ | refine i_ex ?_ | refine i_fz rfl rfl ?_ | refine i_rng ?_ | refine W.mk ?_ | refine ⟨_, _, rfl, rfl, ?_⟩ | refine ⟨_, rfl, ?_⟩)
    refine ⟨rfl, _, rfl, (take_spec (k := 2) hB3 (by omega) (by omega) (by omega)).mono ?_⟩
    rintro _ _ _ ⟨q, _, rfl, rfl, rfl, hB4, q0, q1⟩
    obtain ⟨xhB4, ex⟩ := hB4.lst
    subst ex
    refine ⟨_, rfl, ?_⟩
    repeat (first | refine s_seq ?_ | refine s_nil ?_ | refine s_set ?_ | refine s_if ?_ | refine s_ret ?_ | refine s_retV rfl ?_ | refine s_retO rfl ?_ | refine s_expr ?_ | refine s_unp ?_ | refine s_star ?_ | refine s_par ?_ | refine s_put ?_ | refine s_unpAt ?_ | refine p_k ⟨_, rfl, ?_⟩ | refine w_rnil ?_ | refine w_rcons ?_ | refine w_c ?_ | refine w_var rfl ?_ | refine w_varO rfl ?_ | refine w_nil ?_ | refine w_s rfl ?_ | refine w_v ?_ | refine w_prim ?_ | refine w_call ?_ | refine w_callT ?_ | refine w_methV ?_ | refine w_dnil ?_ | refine w_dcons ?_ | refine w_tup ?_ | refine w_lst ?_ | refine w_if ?_ | refine w_and ?_ | refine w_or ?_ | refine w_not ?_ | refine w_chain ?_ | refine w_sl ?_ | refine w_as rfl ?_ | refine w_av ?_ | refine w_bno ?_ | refine w_bat ?_ | refine w_fapp rfl ?_ | refine t_bl ?_ | refine t_val ?_ | refine t_and ?_ | refine t_or ?_ | refine t_not ?_ | refine i_ex ?_ | refine i_fz rfl rfl ?_ | refine i_rng ?_ | refine W.mk ?_ | refine ⟨_, _, rfl, rfl, ?_⟩ | refine ⟨_, rfl, ?_⟩)
    have hq : ∃ st : Int, (st = 1 ∨ st = 3 ∨ st = 25) ∧ pIx [.lst [.int 1, .int 3, .int 25], .int q] = some ⟨.int st, false⟩ := by
      have : q = 0 ∨ q = 1 ∨ q = 2 := by omega
      rcases this with rfl | rfl | rfl
      · exact ⟨1, .inl rfl, rfl⟩
      · exact ⟨3, .inr (.inl rfl), rfl⟩
      · exact ⟨25, .inr (.inr rfl), rfl⟩
    obtain ⟨st, hst2, hq⟩ := hq
    refine ⟨_, _, rfl, hq, ?_⟩
    repeat (first | refine s_seq ?_ | refine s_nil ?_ | refine s_set ?_ | refine s_if ?_ | refine s_ret ?_ | refine s_retV rfl ?_ | refine s_retO rfl ?_ | refine s_expr ?_ | refine s_unp ?_ | refine s_star ?_ | refine s_par ?_ | refine s_put ?_ | refine s_unpAt ?_ | refine p_k ⟨_, rfl, ?_⟩ | refine w_rnil ?_ | refine w_rcons ?_ | refine w_c ?_ | refine w_var rfl ?_ | refine w_varO rfl ?_ | refine w_nil ?_ | refine w_s rfl ?_ | refine w_v ?_ | refine w_prim ?_ | refine w_call ?_ | refine w_callT ?_ | refine w_methV ?_ | refine w_dnil ?_ | refine w_dcons ?_ | refine w_tup ?_ | refine w_lst ?_ | refine w_if ?_ | refine w_and ?_ | refine w_or ?_ | refine w_not ?_ | refine w_chain ?_ | refine w_sl ?_ | refine w_as rfl ?_ | refine w_av ?_ | refine w_bno ?_ | refine w_bat ?_ | refine w_fapp rfl ?_ | refine t_bl ?_ | refine t_val ?_ | refine t_and ?_ | refine t_or ?_ | refine t_not ?_ | refine i_ex ?_ | refine i_fz rfl rfl ?_ | refine i_rng ?_ | refine W.mk ?_ | refine ⟨_, _, rfl, rfl, ?_⟩ | refine ⟨_, rfl, ?_⟩)
    refine ⟨rfl, _, rfl, (take_spec (k := 2) hB4 (by omega) (by omega) (by omega)).mono ?_⟩
    rintro _ _ _ ⟨lg, _, rfl, rfl, rfl, hB5, lg0, lg1⟩
    obtain ⟨xhB5, ex⟩ := hB5.lst
    subst ex
    refine ⟨_, rfl, ?_⟩
    repeat (first | refine s_seq ?_ | refine s_nil ?_ | refine s_set ?_ | refine s_if ?_ | refine s_ret ?_ | refine s_retV rfl ?_ | refine s_retO rfl ?_ | refine s_expr ?_ | refine s_unp ?_ | refine s_star ?_ | refine s_par ?_ | refine s_put ?_ | refine s_unpAt ?_ | refine p_k ⟨_, rfl, ?_⟩ | refine w_rnil ?_ | refine w_rcons ?_ | refine w_c ?_ | refine w_var rfl ?_ | refine w_varO rfl ?_ | refine w_nil ?_ | refine w_s rfl ?_ | refine w_v ?_ | refine w_prim ?_ | refine w_call ?_ | refine w_callT ?_ | refine w_methV ?_ | refine w_dnil ?_ | refine w_dcons ?_ | refine w_tup ?_ | refine w_lst ?_ | refine w_if ?_ | refine w_and ?_ | refine w_or ?_ | refine w_not ?_ | refine w_chain ?_ | refine w_sl ?_ | refine w_as rfl ?_ | refine w_av ?_ | refine w_bno ?_ | refine w_bat ?_ | refine w_fapp rfl ?_ | refine t_bl ?_ | refine t_val ?_ | refine t_and ?_ | refine t_or ?_ | refine t_not ?_ | refine i_ex ?_ | refine i_fz rfl rfl ?_ | refine i_rng ?_ | refine W.mk ?_ | refine ⟨_, _, rfl, rfl, ?_⟩ | refine ⟨_, rfl, ?_⟩)
    have hlg : lg = 0 ∨ lg = 1 := by omega
    refine s_for ?_
    repeat (first | refine s_seq ?_ | refine s_nil ?_ | refine s_set ?_ | refine s_if ?_ | refine s_ret ?_ | refine s_retV rfl ?_ | refine s_retO rfl ?_ | refine s_expr ?_ | refine s_unp ?_ | refine s_star ?_ | refine s_par ?_ | refine s_put ?_ | refine s_unpAt ?_ | refine p_k ⟨_, rfl, ?_⟩ | refine w_rnil ?_ | refine w_rcons ?_ | refine w_c ?_ | refine w_var rfl ?_ | refine w_varO rfl ?_ | refine w_nil ?_ | refine w_s rfl ?_ | refine w_v ?_ | refine w_prim ?_ | refine w_call ?_ | refine w_callT ?_ | refine w_methV ?_ | refine w_dnil ?_ | refine w_dcons ?_ | refine w_tup ?_ | refine w_lst ?_ | refine w_if ?_ | refine w_and ?_ | refine w_or ?_ | refine w_not ?_ | refine w_chain ?_ | refine w_sl ?_ | refine w_as rfl ?_ | refine w_av ?_ | refine w_bno ?_ | refine w_bat ?_ | refine w_fapp rfl ?_ | refine t_bl ?_ | refine t_val ?_ | refine t_and ?_ | refine t_or ?_ | refine t_not ?_ | refine i_ex ?_ | refine i_fz rfl rfl ?_ | refine i_rng ?_ | refine W.mk ?_ | refine ⟨_, _, rfl, rfl, ?_⟩ | refine ⟨_, rfl, ?_⟩)
    refine ⟨rfl, fun i s => ∃ a b, s = [.ln (.lst xhB5), .fz (.int 26), .fz (.str stem2), a, .fz (.str letters), .fz (.int f), .ow (.lst ((List.range i).map fun k => .str (nmOf stem2 f st lg k))), .fz (.int st), .fz (.int lg), b, .no] ∧ Free a ∧ Free b, ⟨.no, .no, rfl, .no, .no⟩, ?_, ?_⟩
    · rintro i d _ hd ⟨a, b, rfl, fa, fb⟩
      obtain ⟨hi, rfl⟩ := rangeD_get hd
      refine ⟨_, put_free rfl fa, ?_⟩
      repeat (first | refine s_seq ?_ | refine s_nil ?_ | refine s_set ?_ | refine s_if ?_ | refine s_ret ?_ | refine s_retV rfl ?_ | refine s_retO rfl ?_ | refine s_expr ?_ | refine s_unp ?_ | refine s_star ?_ | refine s_par ?_ | refine s_put ?_ | refine s_unpAt ?_ | refine p_k ⟨_, rfl, ?_⟩ | refine w_rnil ?_ | refine w_rcons ?_ | refine w_c ?_ | refine w_var rfl ?_ | refine w_varO rfl ?_ | refine w_nil ?_ | refine w_s rfl ?_ | refine w_v ?_ | refine w_prim ?_ | refine w_call ?_ | refine w_callT ?_ | refine w_methV ?_ | refine w_dnil ?_ | refine w_dcons ?_ | refine w_tup ?_ | refine w_lst ?_ | refine w_if ?_ | refine w_and ?_ | refine w_or ?_ | refine w_not ?_ | refine w_chain ?_ | refine w_sl ?_ | refine w_as rfl ?_ | refine w_av ?_ | refine w_bno ?_ | refine w_bat ?_ | refine w_fapp rfl ?_ | refine t_bl ?_ | refine t_val ?_ | refine t_and ?_ | refine t_or ?_ | refine t_not ?_ | refine i_ex ?_ | refine i_fz rfl rfl ?_ | refine i_rng ?_ | refine W.mk ?_ | refine ⟨_, _, rfl, rfl, ?_⟩ | refine ⟨_, rfl, ?_⟩)
      refine ite_merge (X := fun r t => r = ⟨.int (if lg = 1 then (i : Int) / 2 else i), false⟩ ∧ t = [.ln (.lst xhB5), .fz (.int 26), .fz (.str stem2), .fz (.int i), .fz (.str letters), .fz (.int f), .ow (.lst ((List.range i).map fun k => .str (nmOf stem2 f st lg k))), .fz (.int st), .fz (.int lg), b, .no]) ?_ ?_ ?_
      · intro h
        rw [eqi] at h
        repeat (first | refine s_seq ?_ | refine s_nil ?_ | refine s_set ?_ | refine s_if ?_ | refine s_ret ?_ | refine s_retV rfl ?_ | refine s_retO rfl ?_ | refine s_expr ?_ | refine s_unp ?_ | refine s_star ?_ | refine s_par ?_ | refine s_put ?_ | refine s_unpAt ?_ | refine p_k ⟨_, rfl, ?_⟩ | refine w_rnil ?_ | refine w_rcons ?_ | refine w_c ?_ | refine w_var rfl ?_ | refine w_varO rfl ?_ | refine w_nil ?_ | refine w_s rfl ?_ | refine w_v ?_ | refine w_prim ?_ | refine w_call ?_ | refine w_callT ?_ | refine w_methV ?_ | refine w_dnil ?_ | refine w_dcons ?_ | refine w_tup ?_ | refine w_lst ?_ | refine w_if ?_ | refine w_and ?_ | refine w_or ?_ | refine w_not ?_ | refine w_chain ?_ | refine w_sl ?_ | refine w_as rfl ?_ | refine w_av ?_ | refine w_bno ?_ | refine w_bat ?_ | refine w_fapp rfl ?_ | refine t_bl ?_ | refine t_val ?_ | refine t_and ?_ | refine t_or ?_ | refine t_not ?_ | refine i_ex ?_ | refine i_fz rfl rfl ?_ | refine i_rng ?_ | refine W.mk ?_ | refine ⟨_, _, rfl, rfl, ?_⟩ | refine ⟨_, rfl, ?_⟩)
        exact ⟨by rw [if_pos h], rfl⟩
      · intro h
        rw [eqi] at h
        repeat (first | refine s_seq ?_ | refine s_nil ?_ | refine s_set ?_ | refine s_if ?_ | refine s_ret ?_ | refine s_retV rfl ?_ | refine s_retO rfl ?_ | refine s_expr ?_ | refine s_unp ?_ | refine s_star ?_ | refine s_par ?_ | refine s_put ?_ | refine s_unpAt ?_ | refine p_k ⟨_, rfl, ?_⟩ | refine w_rnil ?_ | refine w_rcons ?_ | refine w_c ?_ | refine w_var rfl ?_ | refine w_varO rfl ?_ | refine w_nil ?_ | refine w_s rfl ?_ | refine w_v ?_ | refine w_prim ?_ | refine w_call ?_ | refine w_callT ?_ | refine w_methV ?_ | refine w_dnil ?_ | refine w_dcons ?_ | refine w_tup ?_ | refine w_lst ?_ | refine w_if ?_ | refine w_and ?_ | refine w_or ?_ | refine w_not ?_ | refine w_chain ?_ | refine w_sl ?_ | refine w_as rfl ?_ | refine w_av ?_ | refine w_bno ?_ | refine w_bat ?_ | refine w_fapp rfl ?_ | refine t_bl ?_ | refine t_val ?_ | refine t_and ?_ | refine t_or ?_ | refine t_not ?_ | refine i_ex ?_ | refine i_fz rfl rfl ?_ | refine i_rng ?_ | refine W.mk ?_ | refine ⟨_, _, rfl, rfl, ?_⟩ | refine ⟨_, rfl, ?_⟩)
        exact ⟨by rw [if_neg h], rfl⟩
      rintro _ _ ⟨rfl, rfl⟩
      repeat (first | refine s_seq ?_ | refine s_nil ?_ | refine s_set ?_ | refine s_if ?_ | refine s_ret ?_ | refine s_retV rfl ?_ | refine s_retO rfl ?_ | refine s_expr ?_ | refine s_unp ?_ | refine s_star ?_ | refine s_par ?_ | refine s_put ?_ | refine s_unpAt ?_ | refine p_k ⟨_, rfl, ?_⟩ | refine w_rnil ?_ | refine w_rcons ?_ | refine w_c ?_ | refine w_var rfl ?_ | refine w_varO rfl ?_ | refine w_nil ?_ | refine w_s rfl ?_ | refine w_v ?_ | refine w_prim ?_ | refine w_call ?_ | refine w_callT ?_ | refine w_methV ?_ | refine w_dnil ?_ | refine w_dcons ?_ | refine w_tup ?_ | refine w_lst ?_ | refine w_if ?_ | refine w_and ?_ | refine w_or ?_ | refine w_not ?_ | refine w_chain ?_ | refine w_sl ?_ | refine w_as rfl ?_ | refine w_av ?_ | refine w_bno ?_ | refine w_bat ?_ | refine w_fapp rfl ?_ | refine t_bl ?_ | refine t_val ?_ | refine t_and ?_ | refine t_or ?_ | refine t_not ?_ | refine i_ex ?_ | refine i_fz rfl rfl ?_ | refine i_rng ?_ | refine W.mk ?_ | refine ⟨_, _, rfl, rfl, ?_⟩ | refine ⟨_, rfl, ?_⟩)
      refine ⟨_, _, rfl, mul_ok (.inl (sm_of (by omega) (by omega))), ?_⟩
      repeat (first | refine s_seq ?_ | refine s_nil ?_ | refine s_set ?_ | refine s_if ?_ | refine s_ret ?_ | refine s_retV rfl ?_ | refine s_retO rfl ?_ | refine s_expr ?_ | refine s_unp ?_ | refine s_star ?_ | refine s_par ?_ | refine s_put ?_ | refine s_unpAt ?_ | refine p_k ⟨_, rfl, ?_⟩ | refine w_rnil ?_ | refine w_rcons ?_ | refine w_c ?_ | refine w_var rfl ?_ | refine w_varO rfl ?_ | refine w_nil ?_ | refine w_s rfl ?_ | refine w_v ?_ | refine w_prim ?_ | refine w_call ?_ | refine w_callT ?_ | refine w_methV ?_ | refine w_dnil ?_ | refine w_dcons ?_ | refine w_tup ?_ | refine w_lst ?_ | refine w_if ?_ | refine w_and ?_ | refine w_or ?_ | refine w_not ?_ | refine w_chain ?_ | refine w_sl ?_ | refine w_as rfl ?_ | refine w_av ?_ | refine w_bno ?_ | refine w_bat ?_ | refine w_fapp rfl ?_ | refine t_bl ?_ | refine t_val ?_ | refine t_and ?_ | refine t_or ?_ | refine t_not ?_ | refine i_ex ?_ | refine i_fz rfl rfl ?_ | refine i_rng ?_ | refine W.mk ?_ | refine ⟨_, _, rfl, rfl, ?_⟩ | refine ⟨_, rfl, ?_⟩)
      refine ⟨_, _, rfl, letter_at (Int.emod_nonneg _ (by decide)) (Int.emod_lt_of_pos _ (by decide)), ?_⟩
      have hlt : ((f + st * if lg = 1 then (i : Int) / 2 else i) % 26).toNat < 26 := by
        have := Int.emod_lt_of_pos (f + st * if lg = 1 then (i : Int) / 2 else i) (show (0 : Int) < 26 by decide)
        have := Int.emod_nonneg (f + st * if lg = 1 then (i : Int) / 2 else i) (show (26 : Int) ≠ 0 by decide)
        omega
      refine ⟨_, store_free rfl fb, ?_⟩
      repeat (first | refine s_seq ?_ | refine s_nil ?_ | refine s_set ?_ | refine s_if ?_ | refine s_ret ?_ | refine s_retV rfl ?_ | refine s_retO rfl ?_ | refine s_expr ?_ | refine s_unp ?_ | refine s_star ?_ | refine s_par ?_ | refine s_put ?_ | refine s_unpAt ?_ | refine p_k ⟨_, rfl, ?_⟩ | refine w_rnil ?_ | refine w_rcons ?_ | refine w_c ?_ | refine w_var rfl ?_ | refine w_varO rfl ?_ | refine w_nil ?_ | refine w_s rfl ?_ | refine w_v ?_ | refine w_prim ?_ | refine w_call ?_ | refine w_callT ?_ | refine w_methV ?_ | refine w_dnil ?_ | refine w_dcons ?_ | refine w_tup ?_ | refine w_lst ?_ | refine w_if ?_ | refine w_and ?_ | refine w_or ?_ | refine w_not ?_ | refine w_chain ?_ | refine w_sl ?_ | refine w_as rfl ?_ | refine w_av ?_ | refine w_bno ?_ | refine w_bat ?_ | refine w_fapp rfl ?_ | refine t_bl ?_ | refine t_val ?_ | refine t_and ?_ | refine t_or ?_ | refine t_not ?_ | refine i_ex ?_ | refine i_fz rfl rfl ?_ | refine i_rng ?_ | refine W.mk ?_ | refine ⟨_, _, rfl, rfl, ?_⟩ | refine ⟨_, rfl, ?_⟩)
      refine ⟨_, _, rfl, add_str hst (okS_one hlt) (by omega), ?_⟩
      repeat (first | refine s_seq ?_ | refine s_nil ?_ | refine s_set ?_ | refine s_if ?_ | refine s_ret ?_ | refine s_retV rfl ?_ | refine s_retO rfl ?_ | refine s_expr ?_ | refine s_unp ?_ | refine s_star ?_ | refine s_par ?_ | refine s_put ?_ | refine s_unpAt ?_ | refine p_k ⟨_, rfl, ?_⟩ | refine w_rnil ?_ | refine w_rcons ?_ | refine w_c ?_ | refine w_var rfl ?_ | refine w_varO rfl ?_ | refine w_nil ?_ | refine w_s rfl ?_ | refine w_v ?_ | refine w_prim ?_ | refine w_call ?_ | refine w_callT ?_ | refine w_methV ?_ | refine w_dnil ?_ | refine w_dcons ?_ | refine w_tup ?_ | refine w_lst ?_ | refine w_if ?_ | refine w_and ?_ | refine w_or ?_ | refine w_not ?_ | refine w_chain ?_ | refine w_sl ?_ | refine w_as rfl ?_ | refine w_av ?_ | refine w_bno ?_ | refine w_bat ?_ | refine w_fapp rfl ?_ | refine t_bl ?_ | refine t_val ?_ | refine t_and ?_ | refine t_or ?_ | refine t_not ?_ | refine i_ex ?_ | refine i_fz rfl rfl ?_ | refine i_rng ?_ | refine W.mk ?_ | refine ⟨_, _, rfl, rfl, ?_⟩ | refine ⟨_, rfl, ?_⟩)
      refine ite_mergeA (X := fun r t => r = ⟨.bl (decide (lg = 1 ∧ i % 2 = 1)), false⟩ ∧ t = [.ln (.lst xhB5), .fz (.int 26), .fz (.str stem2), .fz (.int i), .fz (.str letters), .fz (.int f), .ow (.lst ((List.range i).map fun k => .str (nmOf stem2 f st lg k))), .fz (.int st), .fz (.int lg), .fz (.str ⟨#[97 + ((f + st * if lg = 1 then (i : Int) / 2 else i) % 26).toNat]⟩), .no]) ?_ ?_ ?_
      · intro h
        rw [eqi] at h
        repeat (first | refine s_seq ?_ | refine s_nil ?_ | refine s_set ?_ | refine s_if ?_ | refine s_ret ?_ | refine s_retV rfl ?_ | refine s_retO rfl ?_ | refine s_expr ?_ | refine s_unp ?_ | refine s_star ?_ | refine s_par ?_ | refine s_put ?_ | refine s_unpAt ?_ | refine p_k ⟨_, rfl, ?_⟩ | refine w_rnil ?_ | refine w_rcons ?_ | refine w_c ?_ | refine w_var rfl ?_ | refine w_varO rfl ?_ | refine w_nil ?_ | refine w_s rfl ?_ | refine w_v ?_ | refine w_prim ?_ | refine w_call ?_ | refine w_callT ?_ | refine w_methV ?_ | refine w_dnil ?_ | refine w_dcons ?_ | refine w_tup ?_ | refine w_lst ?_ | refine w_if ?_ | refine w_and ?_ | refine w_or ?_ | refine w_not ?_ | refine w_chain ?_ | refine w_sl ?_ | refine w_as rfl ?_ | refine w_av ?_ | refine w_bno ?_ | refine w_bat ?_ | refine w_fapp rfl ?_ | refine t_bl ?_ | refine t_val ?_ | refine t_and ?_ | refine t_or ?_ | refine t_not ?_ | refine i_ex ?_ | refine i_fz rfl rfl ?_ | refine i_rng ?_ | refine W.mk ?_ | refine ⟨_, _, rfl, rfl, ?_⟩ | refine ⟨_, rfl, ?_⟩)
        refine ⟨?_, rfl⟩
        have e : eqv (.int ((i : Int) % 2)) (.int 1) = decide (lg = 1 ∧ i % 2 = 1) := by
          rw [Bool.eq_iff_iff, eqi, decide_eq_true_iff]
          omega
        show (⟨.bl (eqv (.int ((i : Int) % 2)) (.int 1)), false⟩ : RV) = _
        rw [e]
      · intro h
        rw [eqi] at h
        refine ⟨?_, rfl⟩
        rw [decide_eq_false]
        exact fun c => h c.1
      rintro _ _ ⟨rfl, rfl⟩
      repeat (first | refine s_seq ?_ | refine s_nil ?_ | refine s_set ?_ | refine s_if ?_ | refine s_ret ?_ | refine s_retV rfl ?_ | refine s_retO rfl ?_ | refine s_expr ?_ | refine s_unp ?_ | refine s_star ?_ | refine s_par ?_ | refine s_put ?_ | refine s_unpAt ?_ | refine p_k ⟨_, rfl, ?_⟩ | refine w_rnil ?_ | refine w_rcons ?_ | refine w_c ?_ | refine w_var rfl ?_ | refine w_varO rfl ?_ | refine w_nil ?_ | refine w_s rfl ?_ | refine w_v ?_ | refine w_prim ?_ | refine w_call ?_ | refine w_callT ?_ | refine w_methV ?_ | refine w_dnil ?_ | refine w_dcons ?_ | refine w_tup ?_ | refine w_lst ?_ | refine w_if ?_ | refine w_and ?_ | refine w_or ?_ | refine w_not ?_ | refine w_chain ?_ | refine w_sl ?_ | refine w_as rfl ?_ | refine w_av ?_ | refine w_bno ?_ | refine w_bat ?_ | refine w_fapp rfl ?_ | refine t_bl ?_ | refine t_val ?_ | refine t_and ?_ | refine t_or ?_ | refine t_not ?_ | refine i_ex ?_ | refine i_fz rfl rfl ?_ | refine i_rng ?_ | refine W.mk ?_ | refine ⟨_, _, rfl, rfl, ?_⟩ | refine ⟨_, rfl, ?_⟩)
      refine ⟨_, _, rfl, ab_mul _, ?_⟩
      repeat (first | refine s_seq ?_ | refine s_nil ?_ | refine s_set ?_ | refine s_if ?_ | refine s_ret ?_ | refine s_retV rfl ?_ | refine s_retO rfl ?_ | refine s_expr ?_ | refine s_unp ?_ | refine s_star ?_ | refine s_par ?_ | refine s_put ?_ | refine s_unpAt ?_ | refine p_k ⟨_, rfl, ?_⟩ | refine w_rnil ?_ | refine w_rcons ?_ | refine w_c ?_ | refine w_var rfl ?_ | refine w_varO rfl ?_ | refine w_nil ?_ | refine w_s rfl ?_ | refine w_v ?_ | refine w_prim ?_ | refine w_call ?_ | refine w_callT ?_ | refine w_methV ?_ | refine w_dnil ?_ | refine w_dcons ?_ | refine w_tup ?_ | refine w_lst ?_ | refine w_if ?_ | refine w_and ?_ | refine w_or ?_ | refine w_not ?_ | refine w_chain ?_ | refine w_sl ?_ | refine w_as rfl ?_ | refine w_av ?_ | refine w_bno ?_ | refine w_bat ?_ | refine w_fapp rfl ?_ | refine t_bl ?_ | refine t_val ?_ | refine t_and ?_ | refine t_or ?_ | refine t_not ?_ | refine i_ex ?_ | refine i_fz rfl rfl ?_ | refine i_rng ?_ | refine W.mk ?_ | refine ⟨_, _, rfl, rfl, ?_⟩ | refine ⟨_, rfl, ?_⟩)
      refine ⟨_, _, rfl, add_str (okS_app hst (okS_one hlt)) (ab_ok _) (by omega), ?_⟩
      repeat (first | refine s_seq ?_ | refine s_nil ?_ | refine s_set ?_ | refine s_if ?_ | refine s_ret ?_ | refine s_retV rfl ?_ | refine s_retO rfl ?_ | refine s_expr ?_ | refine s_unp ?_ | refine s_star ?_ | refine s_par ?_ | refine s_put ?_ | refine s_unpAt ?_ | refine p_k ⟨_, rfl, ?_⟩ | refine w_rnil ?_ | refine w_rcons ?_ | refine w_c ?_ | refine w_var rfl ?_ | refine w_varO rfl ?_ | refine w_nil ?_ | refine w_s rfl ?_ | refine w_v ?_ | refine w_prim ?_ | refine w_call ?_ | refine w_callT ?_ | refine w_methV ?_ | refine w_dnil ?_ | refine w_dcons ?_ | refine w_tup ?_ | refine w_lst ?_ | refine w_if ?_ | refine w_and ?_ | refine w_or ?_ | refine w_not ?_ | refine w_chain ?_ | refine w_sl ?_ | refine w_as rfl ?_ | refine w_av ?_ | refine w_bno ?_ | refine w_bat ?_ | refine w_fapp rfl ?_ | refine t_bl ?_ | refine t_val ?_ | refine t_and ?_ | refine t_or ?_ | refine t_not ?_ | refine i_ex ?_ | refine i_fz rfl rfl ?_ | refine i_rng ?_ | refine W.mk ?_ | refine ⟨_, _, rfl, rfl, ?_⟩ | refine ⟨_, rfl, ?_⟩)
      refine ⟨by rw [List.length_map, List.length_range]; have := sizeLine_eq; have hi2 : i < 26 := hi; omega, ?_⟩
      repeat (first | refine s_seq ?_ | refine s_nil ?_ | refine s_set ?_ | refine s_if ?_ | refine s_ret ?_ | refine s_retV rfl ?_ | refine s_retO rfl ?_ | refine s_expr ?_ | refine s_unp ?_ | refine s_star ?_ | refine s_par ?_ | refine s_put ?_ | refine s_unpAt ?_ | refine p_k ⟨_, rfl, ?_⟩ | refine w_rnil ?_ | refine w_rcons ?_ | refine w_c ?_ | refine w_var rfl ?_ | refine w_varO rfl ?_ | refine w_nil ?_ | refine w_s rfl ?_ | refine w_v ?_ | refine w_prim ?_ | refine w_call ?_ | refine w_callT ?_ | refine w_methV ?_ | refine w_dnil ?_ | refine w_dcons ?_ | refine w_tup ?_ | refine w_lst ?_ | refine w_if ?_ | refine w_and ?_ | refine w_or ?_ | refine w_not ?_ | refine w_chain ?_ | refine w_sl ?_ | refine w_as rfl ?_ | refine w_av ?_ | refine w_bno ?_ | refine w_bat ?_ | refine w_fapp rfl ?_ | refine t_bl ?_ | refine t_val ?_ | refine t_and ?_ | refine t_or ?_ | refine t_not ?_ | refine i_ex ?_ | refine i_fz rfl rfl ?_ | refine i_rng ?_ | refine W.mk ?_ | refine ⟨_, _, rfl, rfl, ?_⟩ | refine ⟨_, rfl, ?_⟩)
      have e : (List.range (i + 1)).map (fun k => D.str (nmOf stem2 f st lg k)) = (List.range i).map (fun k => D.str (nmOf stem2 f st lg k)) ++ [.str (stem2 ++ ⟨#[97 + ((f + st * if lg = 1 then (i : Int) / 2 else i) % 26).toNat]⟩ ++ if decide (lg = 1 ∧ i % 2 = 1) = true then ("ab" : Str) else "")] := by
        rw [List.range_succ, List.map_append]
        unfold nmOf
        simp only [decide_eq_true_eq]
        rfl
      refine ⟨_, _, by rw [e]; rfl, .fz, .fz⟩
    · rintro _ ⟨a, b, rfl, fa, fb⟩
      have e26 : (rangeD 0 26).length = 26 := rangeD_lenN (n := 26)
      rw [e26]
      repeat (first | refine s_seq ?_ | refine s_nil ?_ | refine s_set ?_ | refine s_if ?_ | refine s_ret ?_ | refine s_retV rfl ?_ | refine s_retO rfl ?_ | refine s_expr ?_ | refine s_unp ?_ | refine s_star ?_ | refine s_par ?_ | refine s_put ?_ | refine s_unpAt ?_ | refine p_k ⟨_, rfl, ?_⟩ | refine w_rnil ?_ | refine w_rcons ?_ | refine w_c ?_ | refine w_var rfl ?_ | refine w_varO rfl ?_ | refine w_nil ?_ | refine w_s rfl ?_ | refine w_v ?_ | refine w_prim ?_ | refine w_call ?_ | refine w_callT ?_ | refine w_methV ?_ | refine w_dnil ?_ | refine w_dcons ?_ | refine w_tup ?_ | refine w_lst ?_ | refine w_if ?_ | refine w_and ?_ | refine w_or ?_ | refine w_not ?_ | refine w_chain ?_ | refine w_sl ?_ | refine w_as rfl ?_ | refine w_av ?_ | refine w_bno ?_ | refine w_bat ?_ | refine w_fapp rfl ?_ | refine t_bl ?_ | refine t_val ?_ | refine t_and ?_ | refine t_or ?_ | refine t_not ?_ | refine i_ex ?_ | refine i_fz rfl rfl ?_ | refine i_rng ?_ | refine W.mk ?_ | refine ⟨_, _, rfl, rfl, ?_⟩ | refine ⟨_, rfl, ?_⟩)
      refine ⟨(List.range 26).map (nmOf stem2 f st lg), _, by rw [List.map_map]; rfl, rfl, rfl, by simp, ?_, ?_, hB5.mono (by omega)⟩
      · exact nodup_map List.nodup_range fun j hj k hk e => nm_inj f0 hst2 hlg (List.mem_range.mp hj) (List.mem_range.mp hk) e
      · intro s hs
        obtain ⟨k, _, rfl⟩ := List.mem_map.mp hs
        exact nm_ok hst
end L26
set_option autoImplicit false
set_option Elab.async false
set_option linter.all false
set_option maxRecDepth 100000
set_option pp.maxSteps 500
set_option pp.deepTerms false
namespace L26
open PySem L2 Wt
/-! ### names, so many -/
set_option maxHeartbeats 4000000 in
theorem names2_spec {n : Nat} {d : D} (hB : Bx n d) (hn : n < 100000000) :
    Wo (G_l_names [d, .int 2]) fun v fr refs => ∃ (ns : List Str) (d' : D), v = .lst (ns.map .str) ∧ fr = true ∧ refs = [d'] ∧ ns.length = 2 ∧ ns.Nodup ∧ (∀ s ∈ ns, okS 8 s) ∧ Bx (n + 20) d' := by
  obtain ⟨xs, ex⟩ := hB.lst
  subst ex
  refine w_def (σ := [.ln (.lst xs), .fz (.int 2), .no, .no, .no, .no, .no, .no, .no, .no, .no]) rfl ?_
  unfold F_l_names
  repeat (first | refine s_seq ?_ | refine s_nil ?_ | refine s_set ?_ | refine s_if ?_ | refine s_ret ?_ | refine s_retV rfl ?_ | refine s_retO rfl ?_ | refine s_expr ?_ | refine s_unp ?_ | refine s_star ?_ | refine s_par ?_ | refine s_put ?_ | refine s_unpAt ?_ | refine p_k ⟨_, rfl, ?_⟩ | refine w_rnil ?_ | refine w_rcons ?_ | refine w_c ?_ | refine w_var rfl ?_ | refine w_varO rfl ?_ | refine w_nil ?_ | refine w_s rfl ?_ | refine w_v ?_ | refine w_prim ?_ | refine w_call ?_ | refine w_callT ?_ | refine w_methV ?_ | refine w_dnil ?_ | refine w_dcons ?_ | refine w_tup ?_ | refine w_lst ?_ | refine w_if ?_ | refine w_and ?_ | refine w_or ?_ | refine w_not ?_ | refine w_chain ?_ | refine w_sl ?_ | refine w_as rfl ?_ | refine w_av ?_ | refine w_bno ?_ | refine w_bat ?_ | refine w_fapp rfl ?_ | refine t_bl ?_ | refine t_val ?_ | refine t_and ?_ | refine t_or ?_ | refine t_not ?_ | refine i_ex ?_ | refine i_fz rfl rfl ?_ | refine i_rng ?_ | refine W.mk ?_ | refine ⟨_, _, rfl, rfl, ?_⟩ | refine ⟨_, rfl, ?_⟩)
  refine ⟨rfl, _, rfl, (take_spec (k := 2) hB (by omega) (by omega) (by omega)).mono ?_⟩
  rintro _ _ _ ⟨f, _, rfl, rfl, rfl, hB1, f0, f1⟩
  obtain ⟨xhB1, ex⟩ := hB1.lst
  subst ex
  refine ⟨_, rfl, ?_⟩
  repeat (first | refine s_seq ?_ | refine s_nil ?_ | refine s_set ?_ | refine s_if ?_ | refine s_ret ?_ | refine s_retV rfl ?_ | refine s_retO rfl ?_ | refine s_expr ?_ | refine s_unp ?_ | refine s_star ?_ | refine s_par ?_ | refine s_put ?_ | refine s_unpAt ?_ | refine p_k ⟨_, rfl, ?_⟩ | refine w_rnil ?_ | refine w_rcons ?_ | refine w_c ?_ | refine w_var rfl ?_ | refine w_varO rfl ?_ | refine w_nil ?_ | refine w_s rfl ?_ | refine w_v ?_ | refine w_prim ?_ | refine w_call ?_ | refine w_callT ?_ | refine w_methV ?_ | refine w_dnil ?_ | refine w_dcons ?_ | refine w_tup ?_ | refine w_lst ?_ | refine w_if ?_ | refine w_and ?_ | refine w_or ?_ | refine w_not ?_ | refine w_chain ?_ | refine w_sl ?_ | refine w_as rfl ?_ | refine w_av ?_ | refine w_bno ?_ | refine w_bat ?_ | refine w_fapp rfl ?_ | refine t_bl ?_ | refine t_val ?_ | refine t_and ?_ | refine t_or ?_ | refine t_not ?_ | refine i_ex ?_ | refine i_fz rfl rfl ?_ | refine i_rng ?_ | refine W.mk ?_ | refine ⟨_, _, rfl, rfl, ?_⟩ | refine ⟨_, rfl, ?_⟩)
  refine ⟨by have := sizeLine_eq; show 0 ≤ sizeLine; omega, ?_⟩
  repeat (first | refine s_seq ?_ | refine s_nil ?_ | refine s_set ?_ | refine s_if ?_ | refine s_ret ?_ | refine s_retV rfl ?_ | refine s_retO rfl ?_ | refine s_expr ?_ | refine s_unp ?_ | refine s_star ?_ | refine s_par ?_ | refine s_put ?_ | refine s_unpAt ?_ | refine p_k ⟨_, rfl, ?_⟩ | refine w_rnil ?_ | refine w_rcons ?_ | refine w_c ?_ | refine w_var rfl ?_ | refine w_varO rfl ?_ | refine w_nil ?_ | refine w_s rfl ?_ | refine w_v ?_ | refine w_prim ?_ | refine w_call ?_ | refine w_callT ?_ | refine w_methV ?_ | refine w_dnil ?_ | refine w_dcons ?_ | refine w_tup ?_ | refine w_lst ?_ | refine w_if ?_ | refine w_and ?_ | refine w_or ?_ | refine w_not ?_ | refine w_chain ?_ | refine w_sl ?_ | refine w_as rfl ?_ | refine w_av ?_ | refine w_bno ?_ | refine w_bat ?_ | refine w_fapp rfl ?_ | refine t_bl ?_ | refine t_val ?_ | refine t_and ?_ | refine t_or ?_ | refine t_not ?_ | refine i_ex ?_ | refine i_fz rfl rfl ?_ | refine i_rng ?_ | refine W.mk ?_ | refine ⟨_, _, rfl, rfl, ?_⟩ | refine ⟨_, rfl, ?_⟩)
  refine ⟨rfl, ?_⟩
  repeat (first | refine s_seq ?_ | refine s_nil ?_ | refine s_set ?_ | refine s_if ?_ | refine s_ret ?_ | refine s_retV rfl ?_ | refine s_retO rfl ?_ | refine s_expr ?_ | refine s_unp ?_ | refine s_star ?_ | refine s_par ?_ | refine s_put ?_ | refine s_unpAt ?_ | refine p_k ⟨_, rfl, ?_⟩ | refine w_rnil ?_ | refine w_rcons ?_ | refine w_c ?_ | refine w_var rfl ?_ | refine w_varO rfl ?_ | refine w_nil ?_ | refine w_s rfl ?_ | refine w_v ?_ | refine w_prim ?_ | refine w_call ?_ | refine w_callT ?_ | refine w_methV ?_ | refine w_dnil ?_ | refine w_dcons ?_ | refine w_tup ?_ | refine w_lst ?_ | refine w_if ?_ | refine w_and ?_ | refine w_or ?_ | refine w_not ?_ | refine w_chain ?_ | refine w_sl ?_ | refine w_as rfl ?_ | refine w_av ?_ | refine w_bno ?_ | refine w_bat ?_ | refine w_fapp rfl ?_ | refine t_bl ?_ | refine t_val ?_ | refine t_and ?_ | refine t_or ?_ | refine t_not ?_ | refine i_ex ?_ | refine i_fz rfl rfl ?_ | refine i_rng ?_ | refine W.mk ?_ | refine ⟨_, _, rfl, rfl, ?_⟩ | refine ⟨_, rfl, ?_⟩)
  refine w_lc ?_
  repeat (first | refine s_seq ?_ | refine s_nil ?_ | refine s_set ?_ | refine s_if ?_ | refine s_ret ?_ | refine s_retV rfl ?_ | refine s_retO rfl ?_ | refine s_expr ?_ | refine s_unp ?_ | refine s_star ?_ | refine s_par ?_ | refine s_put ?_ | refine s_unpAt ?_ | refine p_k ⟨_, rfl, ?_⟩ | refine w_rnil ?_ | refine w_rcons ?_ | refine w_c ?_ | refine w_var rfl ?_ | refine w_varO rfl ?_ | refine w_nil ?_ | refine w_s rfl ?_ | refine w_v ?_ | refine w_prim ?_ | refine w_call ?_ | refine w_callT ?_ | refine w_methV ?_ | refine w_dnil ?_ | refine w_dcons ?_ | refine w_tup ?_ | refine w_lst ?_ | refine w_if ?_ | refine w_and ?_ | refine w_or ?_ | refine w_not ?_ | refine w_chain ?_ | refine w_sl ?_ | refine w_as rfl ?_ | refine w_av ?_ | refine w_bno ?_ | refine w_bat ?_ | refine w_fapp rfl ?_ | refine t_bl ?_ | refine t_val ?_ | refine t_and ?_ | refine t_or ?_ | refine t_not ?_ | refine i_ex ?_ | refine i_fz rfl rfl ?_ | refine i_rng ?_ | refine W.mk ?_ | refine ⟨_, _, rfl, rfl, ?_⟩ | refine ⟨_, rfl, ?_⟩)
  refine ⟨rfl, _, rfl, (take_spec (k := 2) hB1 (by omega) (by omega) (by omega)).mono ?_⟩
  rintro _ _ _ ⟨m, _, rfl, rfl, rfl, hB2, m0, m1⟩
  obtain ⟨xhB2, ex⟩ := hB2.lst
  subst ex
  refine ⟨_, rfl, ?_⟩
  repeat (first | refine s_seq ?_ | refine s_nil ?_ | refine s_set ?_ | refine s_if ?_ | refine s_ret ?_ | refine s_retV rfl ?_ | refine s_retO rfl ?_ | refine s_expr ?_ | refine s_unp ?_ | refine s_star ?_ | refine s_par ?_ | refine s_put ?_ | refine s_unpAt ?_ | refine p_k ⟨_, rfl, ?_⟩ | refine w_rnil ?_ | refine w_rcons ?_ | refine w_c ?_ | refine w_var rfl ?_ | refine w_varO rfl ?_ | refine w_nil ?_ | refine w_s rfl ?_ | refine w_v ?_ | refine w_prim ?_ | refine w_call ?_ | refine w_callT ?_ | refine w_methV ?_ | refine w_dnil ?_ | refine w_dcons ?_ | refine w_tup ?_ | refine w_lst ?_ | refine w_if ?_ | refine w_and ?_ | refine w_or ?_ | refine w_not ?_ | refine w_chain ?_ | refine w_sl ?_ | refine w_as rfl ?_ | refine w_av ?_ | refine w_bno ?_ | refine w_bat ?_ | refine w_fapp rfl ?_ | refine t_bl ?_ | refine t_val ?_ | refine t_and ?_ | refine t_or ?_ | refine t_not ?_ | refine i_ex ?_ | refine i_fz rfl rfl ?_ | refine i_rng ?_ | refine W.mk ?_ | refine ⟨_, _, rfl, rfl, ?_⟩ | refine ⟨_, rfl, ?_⟩)
  refine ⟨small_of m0 (by omega), ?_⟩
  obtain ⟨m, rfl⟩ := Int.eq_ofNat_of_zero_le m0
  refine ⟨rfl, fun i acc s => (∃ ys : List Str, acc = ys.map .str ∧ ys.length = i ∧ ∀ y ∈ ys, okS 1 y) ∧ ∃ xs a, s = [.ln (.lst xs), .fz (.int 2), .no, .no, .fz (.str letters), .fz (.int f), .ow (.lst []), .no, .no, .no, a] ∧ Bx (n + 2 + i) (.lst xs) ∧ Free a, ⟨⟨[], rfl, rfl, by simp⟩, _, .no, rfl, hB2, .no⟩, ?_, ?_⟩
  · rintro i d acc s hd ⟨⟨ys, rfl, hl, hy⟩, xs, a, rfl, hB3, fa⟩
    obtain ⟨hi, rfl⟩ := rangeD_get hd
    refine ⟨_, rfl, ?_⟩
    repeat (first | refine s_seq ?_ | refine s_nil ?_ | refine s_set ?_ | refine s_if ?_ | refine s_ret ?_ | refine s_retV rfl ?_ | refine s_retO rfl ?_ | refine s_expr ?_ | refine s_unp ?_ | refine s_star ?_ | refine s_par ?_ | refine s_put ?_ | refine s_unpAt ?_ | refine p_k ⟨_, rfl, ?_⟩ | refine w_rnil ?_ | refine w_rcons ?_ | refine w_c ?_ | refine w_var rfl ?_ | refine w_varO rfl ?_ | refine w_nil ?_ | refine w_s rfl ?_ | refine w_v ?_ | refine w_prim ?_ | refine w_call ?_ | refine w_callT ?_ | refine w_methV ?_ | refine w_dnil ?_ | refine w_dcons ?_ | refine w_tup ?_ | refine w_lst ?_ | refine w_if ?_ | refine w_and ?_ | refine w_or ?_ | refine w_not ?_ | refine w_chain ?_ | refine w_sl ?_ | refine w_as rfl ?_ | refine w_av ?_ | refine w_bno ?_ | refine w_bat ?_ | refine w_fapp rfl ?_ | refine t_bl ?_ | refine t_val ?_ | refine t_and ?_ | refine t_or ?_ | refine t_not ?_ | refine i_ex ?_ | refine i_fz rfl rfl ?_ | refine i_rng ?_ | refine W.mk ?_ | refine ⟨_, _, rfl, rfl, ?_⟩ | refine ⟨_, rfl, ?_⟩)
    refine ⟨rfl, _, rfl, (take_spec (k := 2) hB3 (by omega) (by omega) (by omega)).mono ?_⟩
    rintro _ _ _ ⟨q, _, rfl, rfl, rfl, hB4, q0, q1⟩
    obtain ⟨xhB4, ex⟩ := hB4.lst
    subst ex
    refine ⟨_, rfl, ?_⟩
    repeat (first | refine s_seq ?_ | refine s_nil ?_ | refine s_set ?_ | refine s_if ?_ | refine s_ret ?_ | refine s_retV rfl ?_ | refine s_retO rfl ?_ | refine s_expr ?_ | refine s_unp ?_ | refine s_star ?_ | refine s_par ?_ | refine s_put ?_ | refine s_unpAt ?_ | refine p_k ⟨_, rfl, ?_⟩ | refine w_rnil ?_ | refine w_rcons ?_ | refine w_c ?_ | refine w_var rfl ?_ | refine w_varO rfl ?_ | refine w_nil ?_ | refine w_s rfl ?_ | refine w_v ?_ | refine w_prim ?_ | refine w_call ?_ | refine w_callT ?_ | refine w_methV ?_ | refine w_dnil ?_ | refine w_dcons ?_ | refine w_tup ?_ | refine w_lst ?_ | refine w_if ?_ | refine w_and ?_ | refine w_or ?_ | refine w_not ?_ | refine w_chain ?_ | refine w_sl ?_ | refine w_as rfl ?_ | refine w_av ?_ | refine w_bno ?_ | refine w_bat ?_ | refine w_fapp rfl ?_ | refine t_bl ?_ | refine t_val ?_ | refine t_and ?_ | refine t_or ?_ | refine t_not ?_ | refine i_ex ?_ | refine i_fz rfl rfl ?_ | refine i_rng ?_ | refine W.mk ?_ | refine ⟨_, _, rfl, rfl, ?_⟩ | refine ⟨_, rfl, ?_⟩)
    refine ⟨_, _, rfl, letter_at q0 q1, ?_⟩
    refine ⟨by rw [List.length_map]; have := sizeLine_eq; omega, ⟨ys ++ [_], by rw [List.map_append]; rfl, by simp [hl], ?_⟩, _, _, rfl, hB4, .fz⟩
    intro y hy2
    rcases List.mem_append.mp hy2 with h | h
    · exact hy y h
    · rw [List.mem_singleton.mp h]
      exact okS_one (by omega)
  · rintro acc s ⟨⟨ys, rfl, hl, hy⟩, xs, a, rfl, hB3, fa⟩
    rw [rangeD_lenN] at hl hB3
    repeat (first | refine s_seq ?_ | refine s_nil ?_ | refine s_set ?_ | refine s_if ?_ | refine s_ret ?_ | refine s_retV rfl ?_ | refine s_retO rfl ?_ | refine s_expr ?_ | refine s_unp ?_ | refine s_star ?_ | refine s_par ?_ | refine s_put ?_ | refine s_unpAt ?_ | refine p_k ⟨_, rfl, ?_⟩ | refine w_rnil ?_ | refine w_rcons ?_ | refine w_c ?_ | refine w_var rfl ?_ | refine w_varO rfl ?_ | refine w_nil ?_ | refine w_s rfl ?_ | refine w_v ?_ | refine w_prim ?_ | refine w_call ?_ | refine w_callT ?_ | refine w_methV ?_ | refine w_dnil ?_ | refine w_dcons ?_ | refine w_tup ?_ | refine w_lst ?_ | refine w_if ?_ | refine w_and ?_ | refine w_or ?_ | refine w_not ?_ | refine w_chain ?_ | refine w_sl ?_ | refine w_as rfl ?_ | refine w_av ?_ | refine w_bno ?_ | refine w_bat ?_ | refine w_fapp rfl ?_ | refine t_bl ?_ | refine t_val ?_ | refine t_and ?_ | refine t_or ?_ | refine t_not ?_ | refine i_ex ?_ | refine i_fz rfl rfl ?_ | refine i_rng ?_ | refine W.mk ?_ | refine ⟨_, _, rfl, rfl, ?_⟩ | refine ⟨_, rfl, ?_⟩)
    refine ⟨_, _, rfl, join_prim hy (by omega), ?_⟩
    have hst := join_ok ys hy
    generalize Txt.join "" ys = stem at hst
    repeat (first | refine s_seq ?_ | refine s_nil ?_ | refine s_set ?_ | refine s_if ?_ | refine s_ret ?_ | refine s_retV rfl ?_ | refine s_retO rfl ?_ | refine s_expr ?_ | refine s_unp ?_ | refine s_star ?_ | refine s_par ?_ | refine s_put ?_ | refine s_unpAt ?_ | refine p_k ⟨_, rfl, ?_⟩ | refine w_rnil ?_ | refine w_rcons ?_ | refine w_c ?_ | refine w_var rfl ?_ | refine w_varO rfl ?_ | refine w_nil ?_ | refine w_s rfl ?_ | refine w_v ?_ | refine w_prim ?_ | refine w_call ?_ | refine w_callT ?_ | refine w_methV ?_ | refine w_dnil ?_ | refine w_dcons ?_ | refine w_tup ?_ | refine w_lst ?_ | refine w_if ?_ | refine w_and ?_ | refine w_or ?_ | refine w_not ?_ | refine w_chain ?_ | refine w_sl ?_ | refine w_as rfl ?_ | refine w_av ?_ | refine w_bno ?_ | refine w_bat ?_ | refine w_fapp rfl ?_ | refine t_bl ?_ | refine t_val ?_ | refine t_and ?_ | refine t_or ?_ | refine t_not ?_ | refine i_ex ?_ | refine i_fz rfl rfl ?_ | refine i_rng ?_ | refine W.mk ?_ | refine ⟨_, _, rfl, rfl, ?_⟩ | refine ⟨_, rfl, ?_⟩)
    refine ite_merge (X := fun r t => (∃ stem2 : Str, okS 5 stem2 ∧ r = ⟨.str stem2, false⟩) ∧ t = [.ln (.lst xs), .fz (.int 2), .fz (.str stem), .no, .fz (.str letters), .fz (.int f), .ow (.lst []), .no, .no, .no, .no]) ?_ ?_ ?_
    · intro _
      repeat (first | refine s_seq ?_ | refine s_nil ?_ | refine s_set ?_ | refine s_if ?_ | refine s_ret ?_ | refine s_retV rfl ?_ | refine s_retO rfl ?_ | refine s_expr ?_ | refine s_unp ?_ | refine s_star ?_ | refine s_par ?_ | refine s_put ?_ | refine s_unpAt ?_ | refine p_k ⟨_, rfl, ?_⟩ | refine w_rnil ?_ | refine w_rcons ?_ | refine w_c ?_ | refine w_var rfl ?_ | refine w_varO rfl ?_ | refine w_nil ?_ | refine w_s rfl ?_ | refine w_v ?_ | refine w_prim ?_ | refine w_call ?_ | refine w_callT ?_ | refine w_methV ?_ | refine w_dnil ?_ | refine w_dcons ?_ | refine w_tup ?_ | refine w_lst ?_ | refine w_if ?_ | refine w_and ?_ | refine w_or ?_ | refine w_not ?_ | refine w_chain ?_ | refine w_sl ?_ | refine w_as rfl ?_ | refine w_av ?_ | refine w_bno ?_ | refine w_bat ?_ | refine w_fapp rfl ?_ | refine t_bl ?_ | refine t_val ?_ | refine t_and ?_ | refine t_or ?_ | refine t_not ?_ | refine i_ex ?_ | refine i_fz rfl rfl ?_ | refine i_rng ?_ | refine W.mk ?_ | refine ⟨_, _, rfl, rfl, ?_⟩ | refine ⟨_, rfl, ?_⟩)
      exact ⟨⟨_, ⟨by decide, by decide⟩, rfl⟩, rfl⟩
    · intro _
      repeat (first | refine s_seq ?_ | refine s_nil ?_ | refine s_set ?_ | refine s_if ?_ | refine s_ret ?_ | refine s_retV rfl ?_ | refine s_retO rfl ?_ | refine s_expr ?_ | refine s_unp ?_ | refine s_star ?_ | refine s_par ?_ | refine s_put ?_ | refine s_unpAt ?_ | refine p_k ⟨_, rfl, ?_⟩ | refine w_rnil ?_ | refine w_rcons ?_ | refine w_c ?_ | refine w_var rfl ?_ | refine w_varO rfl ?_ | refine w_nil ?_ | refine w_s rfl ?_ | refine w_v ?_ | refine w_prim ?_ | refine w_call ?_ | refine w_callT ?_ | refine w_methV ?_ | refine w_dnil ?_ | refine w_dcons ?_ | refine w_tup ?_ | refine w_lst ?_ | refine w_if ?_ | refine w_and ?_ | refine w_or ?_ | refine w_not ?_ | refine w_chain ?_ | refine w_sl ?_ | refine w_as rfl ?_ | refine w_av ?_ | refine w_bno ?_ | refine w_bat ?_ | refine w_fapp rfl ?_ | refine t_bl ?_ | refine t_val ?_ | refine t_and ?_ | refine t_or ?_ | refine t_not ?_ | refine i_ex ?_ | refine i_fz rfl rfl ?_ | refine i_rng ?_ | refine W.mk ?_ | refine ⟨_, _, rfl, rfl, ?_⟩ | refine ⟨_, rfl, ?_⟩)
      exact ⟨⟨_, hst.mono (by omega), rfl⟩, rfl⟩
    clear hst
    rintro _ _ ⟨⟨stem2, hst, rfl⟩, rfl⟩
    repeat (first | refine s_seq ?_ | refine s_nil ?_ | refine s_set ?_ | refine s_if ?_ | refine s_ret ?_ | refine s_retV rfl ?_ | refine s_retO rfl ?_ | refine s_expr ?_ | refine s_unp ?_ | refine s_star ?_ | refine s_par ?_ | refine s_put ?_ | refine s_unpAt ?_ | refine p_k ⟨_, rfl, ?_⟩ | refine w_rnil ?_ | refine w_rcons ?_ | refine w_c ?_ | refine w_var rfl ?_ | refine w_varO rfl ?_ | refine w_nil ?_ | refine w_s rfl ?_ | refine w_v ?_ | refine w_prim ?_ | refine w_call ?_ | refine w_callT ?_ | refine w_methV ?_ | refine w_dnil ?_ | refine w_dcons ?_ | refine w_tup ?_ | refine w_lst ?_ | refine w_if ?_ | refine w_and ?_ | refine w_or ?_ | refine w_not ?_ | refine w_chain ?_ | refine w_sl ?_ | refine w_as rfl ?_ | refine w_av ?_ | refine w_bno ?_ | refine w_bat ?_ | refine w_fapp rfl ?_ | refine t_bl ?_ | refine t_val ?_ | refine t_and ?_ | refine t_or ?_ | refine t_not ?_ | refine i_ex ?_ | refine i_fz rfl rfl ?_ | refine i_rng ?_ | refine W.mk ?_ | refine ⟨_, _, rfl, rfl, ?_⟩ | refine ⟨_, rfl, ?_⟩)
    refine ⟨by have := sizeLine_eq; show 3 ≤ sizeLine; omega, ?_⟩
    repeat (first | refine s_seq ?_ | refine s_nil ?_ | refine s_set ?_ | refine s_if ?_ | refine s_ret ?_ | refine s_retV rfl ?_ | refine s_retO rfl ?_ | refine s_expr ?_ | refine s_unp ?_ | refine s_star ?_ | refine s_par ?_ | refine s_put ?_ | refine s_unpAt ?_ | refine p_k ⟨_, rfl, ?_⟩ | refine w_rnil ?_ | refine w_rcons ?_ | refine w_c ?_ | refine w_var rfl ?_ | refine w_varO rfl ?_ | refine w_nil ?_ | refine w_s rfl ?_ | refine w_v ?_ | refine w_prim ?_ | refine w_call ?_ | refine w_callT ?_ | refine w_methV ?_ | refine w_dnil ?_ | refine w_dcons ?_ | refine w_tup ?_ | refine w_lst ?_ | refine w_if ?_ | refine w_and ?_ | refine w_or ?_ | refine w_not ?_ | refine w_chain ?_ | refine w_sl ?_ | refine w_as rfl ?_ | refine w_av ?_ | refine w_bno ?_ | refine w_bat ?_ | refine w_fapp rfl ?_ | refine t_bl ?_ | refine t_val ?_ | refine t_and ?_ | refine t_or ?_ | refine t_not ?_ | refine i_ex ?_ | refine i_fz rfl rfl ?_ | refine i_rng ?_ | refine W.mk ?_ | refine ⟨_, _, rfl, rfl, ?_⟩ | refine ⟨_, rfl, ?_⟩)
    refine ⟨rfl, _, rfl, (take_spec (k := 2) hB3 (by omega) (by omega) (by omega)).mono ?_⟩
    rintro _ _ _ ⟨q, _, rfl, rfl, rfl, hB4, q0, q1⟩
    obtain ⟨xhB4, ex⟩ := hB4.lst
    subst ex
    refine ⟨_, rfl, ?_⟩
    repeat (first | refine s_seq ?_ | refine s_nil ?_ | refine s_set ?_ | refine s_if ?_ | refine s_ret ?_ | refine s_retV rfl ?_ | refine s_retO rfl ?_ | refine s_expr ?_ | refine s_unp ?_ | refine s_star ?_ | refine s_par ?_ | refine s_put ?_ | refine s_unpAt ?_ | refine p_k ⟨_, rfl, ?_⟩ | refine w_rnil ?_ | refine w_rcons ?_ | refine w_c ?_ | refine w_var rfl ?_ | refine w_varO rfl ?_ | refine w_nil ?_ | refine w_s rfl ?_ | refine w_v ?_ | refine w_prim ?_ | refine w_call ?_ | refine w_callT ?_ | refine w_methV ?_ | refine w_dnil ?_ | refine w_dcons ?_ | refine w_tup ?_ | refine w_lst ?_ | refine w_if ?_ | refine w_and ?_ | refine w_or ?_ | refine w_not ?_ | refine w_chain ?_ | refine w_sl ?_ | refine w_as rfl ?_ | refine w_av ?_ | refine w_bno ?_ | refine w_bat ?_ | refine w_fapp rfl ?_ | refine t_bl ?_ | refine t_val ?_ | refine t_and ?_ | refine t_or ?_ | refine t_not ?_ | refine i_ex ?_ | refine i_fz rfl rfl ?_ | refine i_rng ?_ | refine W.mk ?_ | refine ⟨_, _, rfl, rfl, ?_⟩ | refine ⟨_, rfl, ?_⟩)
    have hq : ∃ st : Int, (st = 1 ∨ st = 3 ∨ st = 25) ∧ pIx [.lst [.int 1, .int 3, .int 25], .int q] = some ⟨.int st, false⟩ := by
      have : q = 0 ∨ q = 1 ∨ q = 2 := by omega
      rcases this with rfl | rfl | rfl
      · exact ⟨1, .inl rfl, rfl⟩
      · exact ⟨3, .inr (.inl rfl), rfl⟩
      · exact ⟨25, .inr (.inr rfl), rfl⟩
    obtain ⟨st, hst2, hq⟩ := hq
    refine ⟨_, _, rfl, hq, ?_⟩
    repeat (first | refine s_seq ?_ | refine s_nil ?_ | refine s_set ?_ | refine s_if ?_ | refine s_ret ?_ | refine s_retV rfl ?_ | refine s_retO rfl ?_ | refine s_expr ?_ | refine s_unp ?_ | refine s_star ?_ | refine s_par ?_ | refine s_put ?_ | refine s_unpAt ?_ | refine p_k ⟨_, rfl, ?_⟩ | refine w_rnil ?_ | refine w_rcons ?_ | refine w_c ?_ | refine w_var rfl ?_ | refine w_varO rfl ?_ | refine w_nil ?_ | refine w_s rfl ?_ | refine w_v ?_ | refine w_prim ?_ | refine w_call ?_ | refine w_callT ?_ | refine w_methV ?_ | refine w_dnil ?_ | refine w_dcons ?_ | refine w_tup ?_ | refine w_lst ?_ | refine w_if ?_ | refine w_and ?_ | refine w_or ?_ | refine w_not ?_ | refine w_chain ?_ | refine w_sl ?_ | refine w_as rfl ?_ | refine w_av ?_ | refine w_bno ?_ | refine w_bat ?_ | refine w_fapp rfl ?_ | refine t_bl ?_ | refine t_val ?_ | refine t_and ?_ | refine t_or ?_ | refine t_not ?_ | refine i_ex ?_ | refine i_fz rfl rfl ?_ | refine i_rng ?_ | refine W.mk ?_ | refine ⟨_, _, rfl, rfl, ?_⟩ | refine ⟨_, rfl, ?_⟩)
    refine ⟨rfl, _, rfl, (take_spec (k := 2) hB4 (by omega) (by omega) (by omega)).mono ?_⟩
    rintro _ _ _ ⟨lg, _, rfl, rfl, rfl, hB5, lg0, lg1⟩
    obtain ⟨xhB5, ex⟩ := hB5.lst
    subst ex
    refine ⟨_, rfl, ?_⟩
    repeat (first | refine s_seq ?_ | refine s_nil ?_ | refine s_set ?_ | refine s_if ?_ | refine s_ret ?_ | refine s_retV rfl ?_ | refine s_retO rfl ?_ | refine s_expr ?_ | refine s_unp ?_ | refine s_star ?_ | refine s_par ?_ | refine s_put ?_ | refine s_unpAt ?_ | refine p_k ⟨_, rfl, ?_⟩ | refine w_rnil ?_ | refine w_rcons ?_ | refine w_c ?_ | refine w_var rfl ?_ | refine w_varO rfl ?_ | refine w_nil ?_ | refine w_s rfl ?_ | refine w_v ?_ | refine w_prim ?_ | refine w_call ?_ | refine w_callT ?_ | refine w_methV ?_ | refine w_dnil ?_ | refine w_dcons ?_ | refine w_tup ?_ | refine w_lst ?_ | refine w_if ?_ | refine w_and ?_ | refine w_or ?_ | refine w_not ?_ | refine w_chain ?_ | refine w_sl ?_ | refine w_as rfl ?_ | refine w_av ?_ | refine w_bno ?_ | refine w_bat ?_ | refine w_fapp rfl ?_ | refine t_bl ?_ | refine t_val ?_ | refine t_and ?_ | refine t_or ?_ | refine t_not ?_ | refine i_ex ?_ | refine i_fz rfl rfl ?_ | refine i_rng ?_ | refine W.mk ?_ | refine ⟨_, _, rfl, rfl, ?_⟩ | refine ⟨_, rfl, ?_⟩)
    have hlg : lg = 0 ∨ lg = 1 := by omega
    refine s_for ?_
    repeat (first | refine s_seq ?_ | refine s_nil ?_ | refine s_set ?_ | refine s_if ?_ | refine s_ret ?_ | refine s_retV rfl ?_ | refine s_retO rfl ?_ | refine s_expr ?_ | refine s_unp ?_ | refine s_star ?_ | refine s_par ?_ | refine s_put ?_ | refine s_unpAt ?_ | refine p_k ⟨_, rfl, ?_⟩ | refine w_rnil ?_ | refine w_rcons ?_ | refine w_c ?_ | refine w_var rfl ?_ | refine w_varO rfl ?_ | refine w_nil ?_ | refine w_s rfl ?_ | refine w_v ?_ | refine w_prim ?_ | refine w_call ?_ | refine w_callT ?_ | refine w_methV ?_ | refine w_dnil ?_ | refine w_dcons ?_ | refine w_tup ?_ | refine w_lst ?_ | refine w_if ?_ | refine w_and ?_ | refine w_or ?_ | refine w_not ?_ | refine w_chain ?_ | refine w_sl ?_ | refine w_as rfl ?_ | refine w_av ?_ | refine w_bno ?_ | refine w_bat ?_ | refine w_fapp rfl ?_ | refine t_bl ?_ | refine t_val ?_ | refine t_and ?_ | refine t_or ?_ | refine t_not ?_ | refine i_ex ?_ | refine i_fz rfl rfl ?_ | refine i_rng ?_ | refine W.mk ?_ | refine ⟨_, _, rfl, rfl, ?_⟩ | refine ⟨_, rfl, ?_⟩)
    refine ⟨rfl, fun i s => ∃ a b, s = [.ln (.lst xhB5), .fz (.int 2), .fz (.str stem2), a, .fz (.str letters), .fz (.int f), .ow (.lst ((List.range i).map fun k => .str (nmOf stem2 f st lg k))), .fz (.int st), .fz (.int lg), b, .no] ∧ Free a ∧ Free b, ⟨.no, .no, rfl, .no, .no⟩, ?_, ?_⟩
    · rintro i d _ hd ⟨a, b, rfl, fa, fb⟩
      obtain ⟨hi, rfl⟩ := rangeD_get hd
      refine ⟨_, put_free rfl fa, ?_⟩
      repeat (first | refine s_seq ?_ | refine s_nil ?_ | refine s_set ?_ | refine s_if ?_ | refine s_ret ?_ | refine s_retV rfl ?_ | refine s_retO rfl ?_ | refine s_expr ?_ | refine s_unp ?_ | refine s_star ?_ | refine s_par ?_ | refine s_put ?_ | refine s_unpAt ?_ | refine p_k ⟨_, rfl, ?_⟩ | refine w_rnil ?_ | refine w_rcons ?_ | refine w_c ?_ | refine w_var rfl ?_ | refine w_varO rfl ?_ | refine w_nil ?_ | refine w_s rfl ?_ | refine w_v ?_ | refine w_prim ?_ | refine w_call ?_ | refine w_callT ?_ | refine w_methV ?_ | refine w_dnil ?_ | refine w_dcons ?_ | refine w_tup ?_ | refine w_lst ?_ | refine w_if ?_ | refine w_and ?_ | refine w_or ?_ | refine w_not ?_ | refine w_chain ?_ | refine w_sl ?_ | refine w_as rfl ?_ | refine w_av ?_ | refine w_bno ?_ | refine w_bat ?_ | refine w_fapp rfl ?_ | refine t_bl ?_ | refine t_val ?_ | refine t_and ?_ | refine t_or ?_ | refine t_not ?_ | refine i_ex ?_ | refine i_fz rfl rfl ?_ | refine i_rng ?_ | refine W.mk ?_ | refine ⟨_, _, rfl, rfl, ?_⟩ | refine ⟨_, rfl, ?_⟩)
      refine ite_merge (X := fun r t => r = ⟨.int (if lg = 1 then (i : Int) / 2 else i), false⟩ ∧ t = [.ln (.lst xhB5), .fz (.int 2), .fz (.str stem2), .fz (.int i), .fz (.str letters), .fz (.int f), .ow (.lst ((List.range i).map fun k => .str (nmOf stem2 f st lg k))), .fz (.int st), .fz (.int lg), b, .no]) ?_ ?_ ?_
      · intro h
        rw [eqi] at h
        repeat (first | refine s_seq ?_ | refine s_nil ?_ | refine s_set ?_ | refine s_if ?_ | refine s_ret ?_ | refine s_retV rfl ?_ | refine s_retO rfl ?_ | refine s_expr ?_ | refine s_unp ?_ | refine s_star ?_ | refine s_par ?_ | refine s_put ?_ | refine s_unpAt ?_ | refine p_k ⟨_, rfl, ?_⟩ | refine w_rnil ?_ | refine w_rcons ?_ | refine w_c ?_ | refine w_var rfl ?_ | refine w_varO rfl ?_ | refine w_nil ?_ | refine w_s rfl ?_ | refine w_v ?_ | refine w_prim ?_ | refine w_call ?_ | refine w_callT ?_ | refine w_methV ?_ | refine w_dnil ?_ | refine w_dcons ?_ | refine w_tup ?_ | refine w_lst ?_ | refine w_if ?_ | refine w_and ?_ | refine w_or ?_ | refine w_not ?_ | refine w_chain ?_ | refine w_sl ?_ | refine w_as rfl ?_ | refine w_av ?_ | refine w_bno ?_ | refine w_bat ?_ | refine w_fapp rfl ?_ | refine t_bl ?_ | refine t_val ?_ | refine t_and ?_ | refine t_or ?_ | refine t_not ?_ | refine i_ex ?_ | refine i_fz rfl rfl ?_ | refine i_rng ?_ | refine W.mk ?_ | refine ⟨_, _, rfl, rfl, ?_⟩ | refine ⟨_, rfl, ?_⟩)
        exact ⟨by rw [if_pos h], rfl⟩
      · intro h
        rw [eqi] at h
        repeat (first | refine s_seq ?_ | refine s_nil ?_ | refine s_set ?_ | refine s_if ?_ | refine s_ret ?_ | refine s_retV rfl ?_ | refine s_retO rfl ?_ | refine s_expr ?_ | refine s_unp ?_ | refine s_star ?_ | refine s_par ?_ | refine s_put ?_ | refine s_unpAt ?_ | refine p_k ⟨_, rfl, ?_⟩ | refine w_rnil ?_ | refine w_rcons ?_ | refine w_c ?_ | refine w_var rfl ?_ | refine w_varO rfl ?_ | refine w_nil ?_ | refine w_s rfl ?_ | refine w_v ?_ | refine w_prim ?_ | refine w_call ?_ | refine w_callT ?_ | refine w_methV ?_ | refine w_dnil ?_ | refine w_dcons ?_ | refine w_tup ?_ | refine w_lst ?_ | refine w_if ?_ | refine w_and ?_ | refine w_or ?_ | refine w_not ?_ | refine w_chain ?_ | refine w_sl ?_ | refine w_as rfl ?_ | refine w_av ?_ | refine w_bno ?_ | refine w_bat ?_ | refine w_fapp rfl ?_ | refine t_bl ?_ | refine t_val ?_ | refine t_and ?_ | refine t_or ?_ | refine t_not ?_ | refine i_ex ?_ | refine i_fz rfl rfl ?_ | refine i_rng ?_ | refine W.mk ?_ | refine ⟨_, _, rfl, rfl, ?_⟩ | refine ⟨_, rfl, ?_⟩)
        exact ⟨by rw [if_neg h], rfl⟩
      rintro _ _ ⟨rfl, rfl⟩
      repeat (first | refine s_seq ?_ | refine s_nil ?_ | refine s_set ?_ | refine s_if ?_ | refine s_ret ?_ | refine s_retV rfl ?_ | refine s_retO rfl ?_ | refine s_expr ?_ | refine s_unp ?_ | refine s_star ?_ | refine s_par ?_ | refine s_put ?_ | refine s_unpAt ?_ | refine p_k ⟨_, rfl, ?_⟩ | refine w_rnil ?_ | refine w_rcons ?_ | refine w_c ?_ | refine w_var rfl ?_ | refine w_varO rfl ?_ | refine w_nil ?_ | refine w_s rfl ?_ | refine w_v ?_ | refine w_prim ?_ | refine w_call ?_ | refine w_callT ?_ | refine w_methV ?_ | refine w_dnil ?_ | refine w_dcons ?_ | refine w_tup ?_ | refine w_lst ?_ | refine w_if ?_ | refine w_and ?_ | refine w_or ?_ | refine w_not ?_ | refine w_chain ?_ | refine w_sl ?_ | refine w_as rfl ?_ | refine w_av ?_ | refine w_bno ?_ | refine w_bat ?_ | refine w_fapp rfl ?_ | refine t_bl ?_ | refine t_val ?_ | refine t_and ?_ | refine t_or ?_ | refine t_not ?_ | refine i_ex ?_ | refine i_fz rfl rfl ?_ | refine i_rng ?_ | refine W.mk ?_ | refine ⟨_, _, rfl, rfl, ?_⟩ | refine ⟨_, rfl, ?_⟩)
      refine ⟨_, _, rfl, mul_ok (.inl (sm_of (by omega) (by omega))), ?_⟩
      repeat (first | refine s_seq ?_ | refine s_nil ?_ | refine s_set ?_ | refine s_if ?_ | refine s_ret ?_ | refine s_retV rfl ?_ | refine s_retO rfl ?_ | refine s_expr ?_ | refine s_unp ?_ | refine s_star ?_ | refine s_par ?_ | refine s_put ?_ | refine s_unpAt ?_ | refine p_k ⟨_, rfl, ?_⟩ | refine w_rnil ?_ | refine w_rcons ?_ | refine w_c ?_ | refine w_var rfl ?_ | refine w_varO rfl ?_ | refine w_nil ?_ | refine w_s rfl ?_ | refine w_v ?_ | refine w_prim ?_ | refine w_call ?_ | refine w_callT ?_ | refine w_methV ?_ | refine w_dnil ?_ | refine w_dcons ?_ | refine w_tup ?_ | refine w_lst ?_ | refine w_if ?_ | refine w_and ?_ | refine w_or ?_ | refine w_not ?_ | refine w_chain ?_ | refine w_sl ?_ | refine w_as rfl ?_ | refine w_av ?_ | refine w_bno ?_ | refine w_bat ?_ | refine w_fapp rfl ?_ | refine t_bl ?_ | refine t_val ?_ | refine t_and ?_ | refine t_or ?_ | refine t_not ?_ | refine i_ex ?_ | refine i_fz rfl rfl ?_ | refine i_rng ?_ | refine W.mk ?_ | refine ⟨_, _, rfl, rfl, ?_⟩ | refine ⟨_, rfl, ?_⟩)
      refine ⟨_, _, rfl, letter_at (Int.emod_nonneg _ (by decide)) (Int.emod_lt_of_pos _ (by decide)), ?_⟩
      have hlt : ((f + st * if lg = 1 then (i : Int) / 2 else i) % 26).toNat < 26 := by
        have := Int.emod_lt_of_pos (f + st * if lg = 1 then (i : Int) / 2 else i) (show (0 : Int) < 26 by decide)
        have := Int.emod_nonneg (f + st * if lg = 1 then (i : Int) / 2 else i) (show (26 : Int) ≠ 0 by decide)
        omega
      refine ⟨_, store_free rfl fb, ?_⟩
      repeat (first | refine s_seq ?_ | refine s_nil ?_ | refine s_set ?_ | refine s_if ?_ | refine s_ret ?_ | refine s_retV rfl ?_ | refine s_retO rfl ?_ | refine s_expr ?_ | refine s_unp ?_ | refine s_star ?_ | refine s_par ?_ | refine s_put ?_ | refine s_unpAt ?_ | refine p_k ⟨_, rfl, ?_⟩ | refine w_rnil ?_ | refine w_rcons ?_ | refine w_c ?_ | refine w_var rfl ?_ | refine w_varO rfl ?_ | refine w_nil ?_ | refine w_s rfl ?_ | refine w_v ?_ | refine w_prim ?_ | refine w_call ?_ | refine w_callT ?_ | refine w_methV ?_ | refine w_dnil ?_ | refine w_dcons ?_ | refine w_tup ?_ | refine w_lst ?_ | refine w_if ?_ | refine w_and ?_ | refine w_or ?_ | refine w_not ?_ | refine w_chain ?_ | refine w_sl ?_ | refine w_as rfl ?_ | refine w_av ?_ | refine w_bno ?_ | refine w_bat ?_ | refine w_fapp rfl ?_ | refine t_bl ?_ | refine t_val ?_ | refine t_and ?_ | refine t_or ?_ | refine t_not ?_ | refine i_ex ?_ | refine i_fz rfl rfl ?_ | refine i_rng ?_ | refine W.mk ?_ | refine ⟨_, _, rfl, rfl, ?_⟩ | refine ⟨_, rfl, ?_⟩)
      refine ⟨_, _, rfl, add_str hst (okS_one hlt) (by omega), ?_⟩
      repeat (first | refine s_seq ?_ | refine s_nil ?_ | refine s_set ?_ | refine s_if ?_ | refine s_ret ?_ | refine s_retV rfl ?_ | refine s_retO rfl ?_ | refine s_expr ?_ | refine s_unp ?_ | refine s_star ?_ | refine s_par ?_ | refine s_put ?_ | refine s_unpAt ?_ | refine p_k ⟨_, rfl, ?_⟩ | refine w_rnil ?_ | refine w_rcons ?_ | refine w_c ?_ | refine w_var rfl ?_ | refine w_varO rfl ?_ | refine w_nil ?_ | refine w_s rfl ?_ | refine w_v ?_ | refine w_prim ?_ | refine w_call ?_ | refine w_callT ?_ | refine w_methV ?_ | refine w_dnil ?_ | refine w_dcons ?_ | refine w_tup ?_ | refine w_lst ?_ | refine w_if ?_ | refine w_and ?_ | refine w_or ?_ | refine w_not ?_ | refine w_chain ?_ | refine w_sl ?_ | refine w_as rfl ?_ | refine w_av ?_ | refine w_bno ?_ | refine w_bat ?_ | refine w_fapp rfl ?_ | refine t_bl ?_ | refine t_val ?_ | refine t_and ?_ | refine t_or ?_ | refine t_not ?_ | refine i_ex ?_ | refine i_fz rfl rfl ?_ | refine i_rng ?_ | refine W.mk ?_ | refine ⟨_, _, rfl, rfl, ?_⟩ | refine ⟨_, rfl, ?_⟩)
      refine ite_mergeA (X := fun r t => r = ⟨.bl (decide (lg = 1 ∧ i % 2 = 1)), false⟩ ∧ t = [.ln (.lst xhB5), .fz (.int 2), .fz (.str stem2), .fz (.int i), .fz (.str letters), .fz (.int f), .ow (.lst ((List.range i).map fun k => .str (nmOf stem2 f st lg k))), .fz (.int st), .fz (.int lg), .fz (.str ⟨#[97 + ((f + st * if lg = 1 then (i : Int) / 2 else i) % 26).toNat]⟩), .no]) ?_ ?_ ?_
      · intro h
        rw [eqi] at h
        repeat (first | refine s_seq ?_ | refine s_nil ?_ | refine s_set ?_ | refine s_if ?_ | refine s_ret ?_ | refine s_retV rfl ?_ | refine s_retO rfl ?_ | refine s_expr ?_ | refine s_unp ?_ | refine s_star ?_ | refine s_par ?_ | refine s_put ?_ | refine s_unpAt ?_ | refine p_k ⟨_, rfl, ?_⟩ | refine w_rnil ?_ | refine w_rcons ?_ | refine w_c ?_ | refine w_var rfl ?_ | refine w_varO rfl ?_ | refine w_nil ?_ | refine w_s rfl ?_ | refine w_v ?_ | refine w_prim ?_ | refine w_call ?_ | refine w_callT ?_ | refine w_methV ?_ | refine w_dnil ?_ | refine w_dcons ?_ | refine w_tup ?_ | refine w_lst ?_ | refine w_if ?_ | refine w_and ?_ | refine w_or ?_ | refine w_not ?_ | refine w_chain ?_ | refine w_sl ?_ | refine w_as rfl ?_ | refine w_av ?_ | refine w_bno ?_ | refine w_bat ?_ | refine w_fapp rfl ?_ | refine t_bl ?_ | refine t_val ?_ | refine t_and ?_ | refine t_or ?_ | refine t_not ?_ | refine i_ex ?_ | refine i_fz rfl rfl ?_ | refine i_rng ?_ | refine W.mk ?_ | refine ⟨_, _, rfl, rfl, ?_⟩ | refine ⟨_, rfl, ?_⟩)
        refine ⟨?_, rfl⟩
        have e : eqv (.int ((i : Int) % 2)) (.int 1) = decide (lg = 1 ∧ i % 2 = 1) := by
          rw [Bool.eq_iff_iff, eqi, decide_eq_true_iff]
          omega
        show (⟨.bl (eqv (.int ((i : Int) % 2)) (.int 1)), false⟩ : RV) = _
        rw [e]
      · intro h
        rw [eqi] at h
        refine ⟨?_, rfl⟩
        rw [decide_eq_false]
        exact fun c => h c.1
      rintro _ _ ⟨rfl, rfl⟩
      repeat (first | refine s_seq ?_ | refine s_nil ?_ | refine s_set ?_ | refine s_if ?_ | refine s_ret ?_ | refine s_retV rfl ?_ | refine s_retO rfl ?_ | refine s_expr ?_ | refine s_unp ?_ | refine s_star ?_ | refine s_par ?_ | refine s_put ?_ | refine s_unpAt ?_ | refine p_k ⟨_, rfl, ?_⟩ | refine w_rnil ?_ | refine w_rcons ?_ | refine w_c ?_ | refine w_var rfl ?_ | refine w_varO rfl ?_ | refine w_nil ?_ | refine w_s rfl ?_ | refine w_v ?_ | refine w_prim ?_ | refine w_call ?_ | refine w_callT ?_ | refine w_methV ?_ | refine w_dnil ?_ | refine w_dcons ?_ | refine w_tup ?_ | refine w_lst ?_ | refine w_if ?_ | refine w_and ?_ | refine w_or ?_ | refine w_not ?_ | refine w_chain ?_ | refine w_sl ?_ | refine w_as rfl ?_ | refine w_av ?_ | refine w_bno ?_ | refine w_bat ?_ | refine w_fapp rfl ?_ | refine t_bl ?_ | refine t_val ?_ | refine t_and ?_ | refine t_or ?_ | refine t_not ?_ | refine i_ex ?_ | refine i_fz rfl rfl ?_ | refine i_rng ?_ | refine W.mk ?_ | refine ⟨_, _, rfl, rfl, ?_⟩ | refine ⟨_, rfl, ?_⟩)
      refine ⟨_, _, rfl, ab_mul _, ?_⟩
      repeat (first | refine s_seq ?_ | refine s_nil ?_ | refine s_set ?_ | refine s_if ?_ | refine s_ret ?_ | refine s_retV rfl ?_ | refine s_retO rfl ?_ | refine s_expr ?_ | refine s_unp ?_ | refine s_star ?_ | refine s_par ?_ | refine s_put ?_ | refine s_unpAt ?_ | refine p_k ⟨_, rfl, ?_⟩ | refine w_rnil ?_ | refine w_rcons ?_ | refine w_c ?_ | refine w_var rfl ?_ | refine w_varO rfl ?_ | refine w_nil ?_ | refine w_s rfl ?_ | refine w_v ?_ | refine w_prim ?_ | refine w_call ?_ | refine w_callT ?_ | refine w_methV ?_ | refine w_dnil ?_ | refine w_dcons ?_ | refine w_tup ?_ | refine w_lst ?_ | refine w_if ?_ | refine w_and ?_ | refine w_or ?_ | refine w_not ?_ | refine w_chain ?_ | refine w_sl ?_ | refine w_as rfl ?_ | refine w_av ?_ | refine w_bno ?_ | refine w_bat ?_ | refine w_fapp rfl ?_ | refine t_bl ?_ | refine t_val ?_ | refine t_and ?_ | refine t_or ?_ | refine t_not ?_ | refine i_ex ?_ | refine i_fz rfl rfl ?_ | refine i_rng ?_ | refine W.mk ?_ | refine ⟨_, _, rfl, rfl, ?_⟩ | refine ⟨_, rfl, ?_⟩)
      refine ⟨_, _, rfl, add_str (okS_app hst (okS_one hlt)) (ab_ok _) (by omega), ?_⟩
      repeat (first | refine s_seq ?_ | refine s_nil ?_ | refine s_set ?_ | refine s_if ?_ | refine s_ret ?_ | refine s_retV rfl ?_ | refine s_retO rfl ?_ | refine s_expr ?_ | refine s_unp ?_ | refine s_star ?_ | refine s_par ?_ | refine s_put ?_ | refine s_unpAt ?_ | refine p_k ⟨_, rfl, ?_⟩ | refine w_rnil ?_ | refine w_rcons ?_ | refine w_c ?_ | refine w_var rfl ?_ | refine w_varO rfl ?_ | refine w_nil ?_ | refine w_s rfl ?_ | refine w_v ?_ | refine w_prim ?_ | refine w_call ?_ | refine w_callT ?_ | refine w_methV ?_ | refine w_dnil ?_ | refine w_dcons ?_ | refine w_tup ?_ | refine w_lst ?_ | refine w_if ?_ | refine w_and ?_ | refine w_or ?_ | refine w_not ?_ | refine w_chain ?_ | refine w_sl ?_ | refine w_as rfl ?_ | refine w_av ?_ | refine w_bno ?_ | refine w_bat ?_ | refine w_fapp rfl ?_ | refine t_bl ?_ | refine t_val ?_ | refine t_and ?_ | refine t_or ?_ | refine t_not ?_ | refine i_ex ?_ | refine i_fz rfl rfl ?_ | refine i_rng ?_ | refine W.mk ?_ | refine ⟨_, _, rfl, rfl, ?_⟩ | refine ⟨_, rfl, ?_⟩)
      refine ⟨by rw [List.length_map, List.length_range]; have := sizeLine_eq; have hi2 : i < 2 := hi; omega, ?_⟩
      repeat (first | refine s_seq ?_ | refine s_nil ?_ | refine s_set ?_ | refine s_if ?_ | refine s_ret ?_ | refine s_retV rfl ?_ | refine s_retO rfl ?_ | refine s_expr ?_ | refine s_unp ?_ | refine s_star ?_ | refine s_par ?_ | refine s_put ?_ | refine s_unpAt ?_ | refine p_k ⟨_, rfl, ?_⟩ | refine w_rnil ?_ | refine w_rcons ?_ | refine w_c ?_ | refine w_var rfl ?_ | refine w_varO rfl ?_ | refine w_nil ?_ | refine w_s rfl ?_ | refine w_v ?_ | refine w_prim ?_ | refine w_call ?_ | refine w_callT ?_ | refine w_methV ?_ | refine w_dnil ?_ | refine w_dcons ?_ | refine w_tup ?_ | refine w_lst ?_ | refine w_if ?_ | refine w_and ?_ | refine w_or ?_ | refine w_not ?_ | refine w_chain ?_ | refine w_sl ?_ | refine w_as rfl ?_ | refine w_av ?_ | refine w_bno ?_ | refine w_bat ?_ | refine w_fapp rfl ?_ | refine t_bl ?_ | refine t_val ?_ | refine t_and ?_ | refine t_or ?_ | refine t_not ?_ | refine i_ex ?_ | refine i_fz rfl rfl ?_ | refine i_rng ?_ | refine W.mk ?_ | refine ⟨_, _, rfl, rfl, ?_⟩ | refine ⟨_, rfl, ?_⟩)
      have e : (List.range (i + 1)).map (fun k => D.str (nmOf stem2 f st lg k)) = (List.range i).map (fun k => D.str (nmOf stem2 f st lg k)) ++ [.str (stem2 ++ ⟨#[97 + ((f + st * if lg = 1 then (i : Int) / 2 else i) % 26).toNat]⟩ ++ if decide (lg = 1 ∧ i % 2 = 1) = true then ("ab" : Str) else "")] := by
        rw [List.range_succ, List.map_append]
        unfold nmOf
        simp only [decide_eq_true_eq]
        rfl
      refine ⟨_, _, by rw [e]; rfl, .fz, .fz⟩
    · rintro _ ⟨a, b, rfl, fa, fb⟩
      have e26 : (rangeD 0 2).length = 2 := rangeD_lenN (n := 2)
      rw [e26]
      repeat (first | refine s_seq ?_ | refine s_nil ?_ | refine s_set ?_ | refine s_if ?_ | refine s_ret ?_ | refine s_retV rfl ?_ | refine s_retO rfl ?_ | refine s_expr ?_ | refine s_unp ?_ | refine s_star ?_ | refine s_par ?_ | refine s_put ?_ | refine s_unpAt ?_ | refine p_k ⟨_, rfl, ?_⟩ | refine w_rnil ?_ | refine w_rcons ?_ | refine w_c ?_ | refine w_var rfl ?_ | refine w_varO rfl ?_ | refine w_nil ?_ | refine w_s rfl ?_ | refine w_v ?_ | refine w_prim ?_ | refine w_call ?_ | refine w_callT ?_ | refine w_methV ?_ | refine w_dnil ?_ | refine w_dcons ?_ | refine w_tup ?_ | refine w_lst ?_ | refine w_if ?_ | refine w_and ?_ | refine w_or ?_ | refine w_not ?_ | refine w_chain ?_ | refine w_sl ?_ | refine w_as rfl ?_ | refine w_av ?_ | refine w_bno ?_ | refine w_bat ?_ | refine w_fapp rfl ?_ | refine t_bl ?_ | refine t_val ?_ | refine t_and ?_ | refine t_or ?_ | refine t_not ?_ | refine i_ex ?_ | refine i_fz rfl rfl ?_ | refine i_rng ?_ | refine W.mk ?_ | refine ⟨_, _, rfl, rfl, ?_⟩ | refine ⟨_, rfl, ?_⟩)
      refine ⟨(List.range 2).map (nmOf stem2 f st lg), _, by rw [List.map_map]; rfl, rfl, rfl, by simp, ?_, ?_, hB5.mono (by omega)⟩
      · exact nodup_map List.nodup_range fun j hj k hk e => nm_inj f0 hst2 hlg (Nat.lt_of_lt_of_le (List.mem_range.mp hj) (by decide)) (Nat.lt_of_lt_of_le (List.mem_range.mp hk) (by decide)) e
      · intro s hs
        obtain ⟨k, _, rfl⟩ := List.mem_map.mp hs
        exact nm_ok hst
end L26
set_option autoImplicit false
set_option Elab.async false
set_option linter.all false
set_option maxRecDepth 100000
set_option pp.maxSteps 500
set_option pp.deepTerms false
namespace L26
open PySem L2 Wt
/-! ### sorted lists -/
theorem perm_un {α : Type} {f : α → D} {g : D → Option α} (hg : ∀ a, g (f a) = some a) {ds : List D} {ys : List α} (h : ds.Perm (ys.map f)) : ∃ zs : List α, ds = zs.map f ∧ zs.Perm ys := by
  refine ⟨ds.filterMap g, ?_, ?_⟩
  · have hd : ∀ d ∈ ds, ∃ a, d = f a := fun d hd => by
      obtain ⟨a, _, e⟩ := List.mem_map.mp (h.mem_iff.mp hd)
      exact ⟨a, e.symm⟩
    clear h
    induction ds with
    | nil => rfl
    | cons d r ih =>
      obtain ⟨a, rfl⟩ := hd d (List.mem_cons_self ..)
      rw [List.filterMap_cons_some (hg a), List.map_cons, ← ih fun d h => hd d (List.mem_cons_of_mem _ h)]
  · have := h.filterMap g
    rw [List.filterMap_map] at this
    have e : g ∘ f = some := funext hg
    rwa [e, List.filterMap_some] at this
theorem plains_map {α : Type} {f : α → D} (hf : ∀ a, plain (f a) = true) : ∀ ys : List α, plains (ys.map f) = true
  | [] => rfl
  | y :: ys => by
    rw [List.map_cons]
    show (plain (f y) && plains (ys.map f)) = true
    rw [hf y, plains_map hf ys]; rfl
/-- any list of which pSorted asks nothing more -/
theorem sorted_un {α : Type} {f : α → D} {g : D → Option α} (hg : ∀ a, g (f a) = some a) {ys : List α} (hp : ∀ a, plain (f a) = true) (hl : ys.length ≤ 1000) (hd : ∀ a, (toP (f a)).depth ≤ 60) (hm : ((strsOf (ys.map f)).isSome || (intsOf (ys.map f)).isSome || mixB (ys.map f)) = true) :
    ∃ zs : List α, pSorted [.lst (ys.map f)] = some ⟨.lst (zs.map f), true⟩ ∧ zs.Perm ys := by
  obtain ⟨zs, e, hz⟩ := perm_un hg (List.mergeSort_perm (ys.map f) leD)
  refine ⟨zs, ?_, hz⟩
  rw [← e]
  refine if_pos ?_
  have z := sizeLine_eq
  rw [plains_map hp, hm, decide_eq_true (by rw [List.length_map]; omega : (ys.map f).length ≤ sizeLine)]
  rw [Bool.true_and, Bool.true_and, Bool.and_true, List.all_eq_true]
  intro d hd2
  obtain ⟨a, _, rfl⟩ := List.mem_map.mp hd2
  exact decide_eq_true (hd a)
theorem sorted_strs {ys : List Str} (hl : ys.length ≤ 1000) : ∃ zs : List Str, pSorted [.lst (ys.map .str)] = some ⟨.lst (zs.map .str), true⟩ ∧ zs.Perm ys := by
  refine sorted_un (g := fun d => match d with | .str s => some s | _ => none) (fun _ => rfl) (fun _ => rfl) hl (fun _ => ?_) ?_
  · show 0 ≤ 60
    omega
  · rw [strsOf_map]; rfl
/-- rows of unlike names -/
theorem mix_rows {α : Type} {f : α → D} {nm : α → Str} (hf : ∀ a, ∃ r, f a = .tup (.str (nm a) :: r)) {ys : List α} (hn : (ys.map nm).Nodup) (hs : ∀ a, PySem.W.alike (toP (f a)) (toP (f a)) = true) : mixB (ys.map f) = true := by
  have hh : ∀ a, hdT (toP (f a)) = some (nm a) := fun a => by
    obtain ⟨r, e⟩ := hf a
    rw [e]; rfl
  have inj : ∀ a ∈ ys, ∀ b ∈ ys, nm a = nm b → a = b := by
    clear hs hh hf
    induction ys with
    | nil => intro a ha; cases ha
    | cons y r ih =>
      rw [List.map_cons, List.nodup_cons] at hn
      intro a ha b hb e
      rcases List.mem_cons.mp ha with h1 | h1 <;> rcases List.mem_cons.mp hb with h2 | h2
      · rw [h1, h2]
      · rw [h1] at e
        exact absurd (List.mem_map.mpr ⟨b, h2, e.symm⟩ : nm y ∈ r.map nm) hn.1
      · rw [h2] at e
        exact absurd (List.mem_map.mpr ⟨a, h1, e⟩ : nm y ∈ r.map nm) hn.1
      · exact ih hn.2 a h1 b h2 e
  unfold mixB
  rw [Bool.and_eq_true]
  refine ⟨List.all_eq_true.mpr fun d hd => ?_, List.all_eq_true.mpr fun d hd => List.all_eq_true.mpr fun e he => ?_⟩
  · obtain ⟨a, _, rfl⟩ := List.mem_map.mp hd
    rw [hh]; rfl
  · obtain ⟨a, ha, rfl⟩ := List.mem_map.mp hd
    obtain ⟨b, hb, rfl⟩ := List.mem_map.mp he
    rw [hh, hh]
    by_cases c : nm a = nm b
    · rw [inj a ha b hb c, hs]; rfl
    · have : (some (nm a) != some (nm b)) = true := by simpa using c
      rw [this, Bool.or_true]
end L26
set_option autoImplicit false
set_option Elab.async false
set_option linter.all false
set_option maxRecDepth 100000
set_option pp.maxSteps 500
set_option pp.deepTerms false
namespace L26
open PySem L2 Wt
/-! ### parts -/
structure Pt where
  nm : Str
  modes : List Str
  odd : List Str
def Pt.d (p : Pt) : D := .tup [.str p.nm, .tup (p.modes.map .str), .tup (p.odd.map .str)]
def Pt.ok (p : Pt) : Prop := okS 8 p.nm ∧ 2 ≤ p.modes.length ∧ p.modes.length ≤ 3 ∧ (∀ s ∈ p.modes, okS 8 s) ∧ p.odd.length ≤ 3 ∧ (∀ s ∈ p.odd, okS 8 s) ∧ p.modes.Nodup
def unS : D → Option Str
  | .str s => some s
  | _ => none
def unPt : D → Option Pt
  | .tup [.str n, .tup ms, .tup os] => some ⟨n, ms.filterMap unS, os.filterMap unS⟩
  | _ => none
theorem unS_map : ∀ ys : List Str, (ys.map D.str).filterMap unS = ys
  | [] => rfl
  | y :: ys => by rw [List.map_cons, List.filterMap_cons_some (f := unS) (a := D.str y) (b := y) rfl, unS_map ys]
theorem unPt_d (p : Pt) : unPt p.d = some p := by
  show some (⟨p.nm, (p.modes.map D.str).filterMap unS, (p.odd.map D.str).filterMap unS⟩ : Pt) = some p
  rw [unS_map, unS_map]
theorem depth_strs : ∀ ys : List Str, PyData.depthAll (toPs (ys.map D.str)) ≤ 1
  | [] => by decide
  | y :: ys => by
    have := depth_strs ys
    show Nat.max _ _ ≤ 1
    exact Nat.max_le.mpr ⟨by simp [toP, PyData.depth], this⟩
theorem cut_nat {xs : List D} {a b : Nat} (h : b ≤ xs.length) (hab : a ≤ b) : cutD xs (some (a : Int)) (some (b : Int)) = (xs.drop a).take (b - a) := by
  unfold cutD
  rw [HT.sIx_nat, HT.sIx_nat, Nat.min_eq_left h, Nat.min_eq_left (by omega)]
theorem sub_strs {es : List D} {ys : List Str} (h : es.Sublist (ys.map D.str)) : ∃ zs : List Str, es = zs.map .str ∧ zs.Sublist ys := by
  obtain ⟨zs, hz, e⟩ := List.sublist_map_iff.mp h
  exact ⟨zs, e, hz⟩
theorem Pt.dep (p : Pt) : (toP p.d).depth ≤ 60 := by
  have a := depth_strs p.modes
  have b := depth_strs p.odd
  show PyData.depth (.tuple [.str p.nm, .tuple (toPs (p.modes.map D.str)), .tuple (toPs (p.odd.map D.str))]) ≤ 60
  simp only [PyData.depth, PyData.depthAll]
  omega
theorem alikeAll_strs : ∀ ys : List Str, PySem.W.alikeAll (toPs (ys.map D.str)) (toPs (ys.map D.str)) = true
  | [] => rfl
  | y :: ys => by
    show (PySem.W.alike (.str y) (.str y) && PySem.W.alikeAll (toPs (ys.map D.str)) (toPs (ys.map D.str))) = true
    rw [alikeAll_strs ys]; simp [PySem.W.alike]
theorem Pt.alk (p : Pt) : PySem.W.alike (toP p.d) (toP p.d) = true := by
  show PySem.W.alike (.tuple [.str p.nm, .tuple (toPs (p.modes.map D.str)), .tuple (toPs (p.odd.map D.str))]) (.tuple [.str p.nm, .tuple (toPs (p.modes.map D.str)), .tuple (toPs (p.odd.map D.str))]) = true
  simp only [PySem.W.alike, PySem.W.alikeAll, alikeAll_strs, Bool.and_true]
theorem plains_strs : ∀ ys : List Str, plains (ys.map D.str) = true := plains_map fun _ => rfl
theorem Pt.pl (p : Pt) : plain p.d = true := by
  show (plain (D.str p.nm) && (plains (p.modes.map D.str) && (plains (p.odd.map D.str) && true))) = true
  rw [plains_strs, plains_strs]; rfl
theorem sorted_parts {ps : List Pt} (hl : ps.length ≤ 1000) (hn : (ps.map Pt.nm).Nodup) : ∃ qs : List Pt, pSorted [.lst (ps.map Pt.d)] = some ⟨.lst (qs.map Pt.d), true⟩ ∧ qs.Perm ps :=
  sorted_un unPt_d Pt.pl hl Pt.dep (by rw [mix_rows (f := Pt.d) (fun a => ⟨_, rfl⟩) hn Pt.alk, Bool.or_true])
end L26
set_option autoImplicit false
set_option Elab.async false
set_option linter.all false
set_option maxRecDepth 100000
set_option pp.maxSteps 500
set_option pp.deepTerms false
namespace L26
open PySem L2 Wt
set_option maxHeartbeats 4000000 in
theorem parts_spec {n : Nat} {d : D} {ns : List Str} {c : Nat} (hB : Bx n d) (hn : n < 100000000) (hl : ns.length = 16) (h1 : 1 ≤ c) (h4 : c ≤ 4) (hd : ns.Nodup) (ho : ∀ s ∈ ns, okS 8 s) :
    Wo (G_l_parts_by [d, .lst (ns.map .str), .int c]) fun v fr refs => ∃ (ps : List Pt) (d' : D), v = .tup (ps.map Pt.d) ∧ fr = false ∧ refs = [d'] ∧ ps.length = c ∧ (∀ p ∈ ps, p.ok) ∧ (ps.map Pt.nm).Nodup ∧ Bx (n + 16) d' := by
  obtain ⟨xs, ex⟩ := hB.lst
  subst ex
  refine w_def (σ := [.ln (.lst xs), .fz (.lst (ns.map .str)), .fz (.int c), .no, .no, .no, .no]) rfl ?_
  unfold F_l_parts_by
  refine s_seq ?_
  refine s_set ?_
  refine w_lst ?_
  refine w_dnil ?_
  refine ⟨Nat.zero_le _, _, rfl, ?_⟩
  refine s_seq ?_
  have hsm : small (c : Int) = true := small_of (by omega) (by omega)
  refine s_for ?_
  refine i_rng ?_
  refine w_var rfl ?_
  refine ⟨_, rfl, hsm, fun i s => ∃ (ps : List Pt) (xs : List D) (a b e : Sl), s = [.ln (.lst xs), .fz (.lst (ns.map .str)), .fz (.int c), .ow (.lst (ps.map Pt.d)), a, b, e] ∧ ps.map Pt.nm = ns.take i ∧ (∀ p ∈ ps, p.ok) ∧ Bx (n + 4 * i) (.lst xs) ∧ Free a ∧ Free b ∧ Free e, ⟨[], xs, .no, .no, .no, rfl, by simp, by simp, hB, .no, .no, .no⟩, ?_, ?_⟩
  · rintro i d _ hd2 ⟨ps, xs, a, b, e, rfl, hp, hk, hB1, fa, fb, fe⟩
    obtain ⟨hi, rfl⟩ := rangeD_get hd2
    have hic : i < c := hi
    refine ⟨_, put_free rfl fa, ?_⟩
    repeat (first | refine s_seq ?_ | refine s_nil ?_ | refine s_set ?_ | refine s_if ?_ | refine s_ret ?_ | refine s_retV rfl ?_ | refine s_retO rfl ?_ | refine s_expr ?_ | refine s_unp ?_ | refine s_star ?_ | refine s_par ?_ | refine s_put ?_ | refine s_unpAt ?_ | refine p_k ⟨_, rfl, ?_⟩ | refine w_rnil ?_ | refine w_rcons ?_ | refine w_c ?_ | refine w_var rfl ?_ | refine w_varO rfl ?_ | refine w_nil ?_ | refine w_s rfl ?_ | refine w_v ?_ | refine w_prim ?_ | refine w_call ?_ | refine w_callT ?_ | refine w_methV ?_ | refine w_dnil ?_ | refine w_dcons ?_ | refine w_tup ?_ | refine w_lst ?_ | refine w_if ?_ | refine w_and ?_ | refine w_or ?_ | refine w_not ?_ | refine w_chain ?_ | refine w_sl ?_ | refine w_as rfl ?_ | refine w_av ?_ | refine w_bno ?_ | refine w_bat ?_ | refine w_fapp rfl ?_ | refine t_bl ?_ | refine t_val ?_ | refine t_and ?_ | refine t_or ?_ | refine t_not ?_ | refine i_ex ?_ | refine i_fz rfl rfl ?_ | refine i_rng ?_ | refine W.mk ?_ | refine ⟨_, _, rfl, rfl, ?_⟩ | refine ⟨_, rfl, ?_⟩)
    refine ⟨rfl, _, rfl, (take_spec (k := 2) hB1 (by omega) (by omega) (by omega)).mono ?_⟩
    rintro _ _ _ ⟨t, _, rfl, rfl, rfl, hB2, t0, t1⟩
    obtain ⟨xhB2, ex⟩ := hB2.lst
    subst ex
    refine ⟨_, rfl, ?_⟩
    repeat (first | refine s_seq ?_ | refine s_nil ?_ | refine s_set ?_ | refine s_if ?_ | refine s_ret ?_ | refine s_retV rfl ?_ | refine s_retO rfl ?_ | refine s_expr ?_ | refine s_unp ?_ | refine s_star ?_ | refine s_par ?_ | refine s_put ?_ | refine s_unpAt ?_ | refine p_k ⟨_, rfl, ?_⟩ | refine w_rnil ?_ | refine w_rcons ?_ | refine w_c ?_ | refine w_var rfl ?_ | refine w_varO rfl ?_ | refine w_nil ?_ | refine w_s rfl ?_ | refine w_v ?_ | refine w_prim ?_ | refine w_call ?_ | refine w_callT ?_ | refine w_methV ?_ | refine w_dnil ?_ | refine w_dcons ?_ | refine w_tup ?_ | refine w_lst ?_ | refine w_if ?_ | refine w_and ?_ | refine w_or ?_ | refine w_not ?_ | refine w_chain ?_ | refine w_sl ?_ | refine w_as rfl ?_ | refine w_av ?_ | refine w_bno ?_ | refine w_bat ?_ | refine w_fapp rfl ?_ | refine t_bl ?_ | refine t_val ?_ | refine t_and ?_ | refine t_or ?_ | refine t_not ?_ | refine i_ex ?_ | refine i_fz rfl rfl ?_ | refine i_rng ?_ | refine W.mk ?_ | refine ⟨_, _, rfl, rfl, ?_⟩ | refine ⟨_, rfl, ?_⟩)
    obtain ⟨t, rfl⟩ := Int.eq_ofNat_of_zero_le t0
    have ecut : ∃ ms : List Str, cutD (ns.map .str) (some ((c : Int) + 3 * (i : Int))) (some ((c : Int) + 3 * (i : Int) + 2 + (t : Int))) = ms.map .str ∧ ms.length = 2 + t ∧ (∀ s ∈ ms, okS 8 s) ∧ ms.Nodup := by
      refine ⟨(ns.drop (c + 3 * i)).take (2 + t), ?_, ?_, ?_, (hd.sublist (List.drop_sublist ..)).sublist (List.take_sublist ..)⟩
      · have e1 : (c : Int) + 3 * (i : Int) = ((c + 3 * i : Nat) : Int) := by omega
        have e2 : (c : Int) + 3 * (i : Int) + 2 + (t : Int) = ((c + 3 * i + 2 + t : Nat) : Int) := by omega
        rw [e2, e1, cut_nat (by rw [List.length_map]; omega) (by omega), List.map_take, List.map_drop, show c + 3 * i + 2 + t - (c + 3 * i) = 2 + t by omega]
      · rw [List.length_take, List.length_drop]; omega
      · exact fun s h => ho s (List.mem_of_mem_drop (List.mem_of_mem_take h))
    obtain ⟨ms, ecut, hml, hmo, hmn⟩ := ecut
    rw [ecut]
    refine ⟨_, store_freeO rfl fb, ?_⟩
    repeat (first | refine s_seq ?_ | refine s_nil ?_ | refine s_set ?_ | refine s_if ?_ | refine s_ret ?_ | refine s_retV rfl ?_ | refine s_retO rfl ?_ | refine s_expr ?_ | refine s_unp ?_ | refine s_star ?_ | refine s_par ?_ | refine s_put ?_ | refine s_unpAt ?_ | refine p_k ⟨_, rfl, ?_⟩ | refine w_rnil ?_ | refine w_rcons ?_ | refine w_c ?_ | refine w_var rfl ?_ | refine w_varO rfl ?_ | refine w_nil ?_ | refine w_s rfl ?_ | refine w_v ?_ | refine w_prim ?_ | refine w_call ?_ | refine w_callT ?_ | refine w_methV ?_ | refine w_dnil ?_ | refine w_dcons ?_ | refine w_tup ?_ | refine w_lst ?_ | refine w_if ?_ | refine w_and ?_ | refine w_or ?_ | refine w_not ?_ | refine w_chain ?_ | refine w_sl ?_ | refine w_as rfl ?_ | refine w_av ?_ | refine w_bno ?_ | refine w_bat ?_ | refine w_fapp rfl ?_ | refine t_bl ?_ | refine t_val ?_ | refine t_and ?_ | refine t_or ?_ | refine t_not ?_ | refine i_ex ?_ | refine i_fz rfl rfl ?_ | refine i_rng ?_ | refine W.mk ?_ | refine ⟨_, _, rfl, rfl, ?_⟩ | refine ⟨_, rfl, ?_⟩)
    refine ⟨rfl, _, rfl, (some_spec hB2 (by rw [List.length_map]; omega) (by rw [List.length_map]; omega) (by omega)).mono ?_⟩
    rintro _ fr _ ⟨es, d', rfl, hsub, _, rfl, hB3⟩
    rw [List.length_map] at hB3
    obtain ⟨zs, rfl, hz⟩ := sub_strs hsub
    obtain ⟨x3, ex⟩ := hB3.lst
    subst ex
    have hzl := hz.length_le
    obtain ⟨os, hos, hop⟩ := sorted_strs (ys := zs) (by omega)
    refine ⟨_, rfl, ?_⟩
    repeat (first | refine s_seq ?_ | refine s_nil ?_ | refine s_set ?_ | refine s_if ?_ | refine s_ret ?_ | refine s_retV rfl ?_ | refine s_retO rfl ?_ | refine s_expr ?_ | refine s_unp ?_ | refine s_star ?_ | refine s_par ?_ | refine s_put ?_ | refine s_unpAt ?_ | refine p_k ⟨_, rfl, ?_⟩ | refine w_rnil ?_ | refine w_rcons ?_ | refine w_c ?_ | refine w_var rfl ?_ | refine w_varO rfl ?_ | refine w_nil ?_ | refine w_s rfl ?_ | refine w_v ?_ | refine w_prim ?_ | refine w_call ?_ | refine w_callT ?_ | refine w_methV ?_ | refine w_dnil ?_ | refine w_dcons ?_ | refine w_tup ?_ | refine w_lst ?_ | refine w_if ?_ | refine w_and ?_ | refine w_or ?_ | refine w_not ?_ | refine w_chain ?_ | refine w_sl ?_ | refine w_as rfl ?_ | refine w_av ?_ | refine w_bno ?_ | refine w_bat ?_ | refine w_fapp rfl ?_ | refine t_bl ?_ | refine t_val ?_ | refine t_and ?_ | refine t_or ?_ | refine t_not ?_ | refine i_ex ?_ | refine i_fz rfl rfl ?_ | refine i_rng ?_ | refine W.mk ?_ | refine ⟨_, _, rfl, rfl, ?_⟩ | refine ⟨_, rfl, ?_⟩)
    refine ⟨_, _, rfl, hos, ?_⟩
    repeat (first | refine s_seq ?_ | refine s_nil ?_ | refine s_set ?_ | refine s_if ?_ | refine s_ret ?_ | refine s_retV rfl ?_ | refine s_retO rfl ?_ | refine s_expr ?_ | refine s_unp ?_ | refine s_star ?_ | refine s_par ?_ | refine s_put ?_ | refine s_unpAt ?_ | refine p_k ⟨_, rfl, ?_⟩ | refine w_rnil ?_ | refine w_rcons ?_ | refine w_c ?_ | refine w_var rfl ?_ | refine w_varO rfl ?_ | refine w_nil ?_ | refine w_s rfl ?_ | refine w_v ?_ | refine w_prim ?_ | refine w_call ?_ | refine w_callT ?_ | refine w_methV ?_ | refine w_dnil ?_ | refine w_dcons ?_ | refine w_tup ?_ | refine w_lst ?_ | refine w_if ?_ | refine w_and ?_ | refine w_or ?_ | refine w_not ?_ | refine w_chain ?_ | refine w_sl ?_ | refine w_as rfl ?_ | refine w_av ?_ | refine w_bno ?_ | refine w_bat ?_ | refine w_fapp rfl ?_ | refine t_bl ?_ | refine t_val ?_ | refine t_and ?_ | refine t_or ?_ | refine t_not ?_ | refine i_ex ?_ | refine i_fz rfl rfl ?_ | refine i_rng ?_ | refine W.mk ?_ | refine ⟨_, _, rfl, rfl, ?_⟩ | refine ⟨_, rfl, ?_⟩)
    refine ⟨_, store_free rfl fe, ?_⟩
    repeat (first | refine s_seq ?_ | refine s_nil ?_ | refine s_set ?_ | refine s_if ?_ | refine s_ret ?_ | refine s_retV rfl ?_ | refine s_retO rfl ?_ | refine s_expr ?_ | refine s_unp ?_ | refine s_star ?_ | refine s_par ?_ | refine s_put ?_ | refine s_unpAt ?_ | refine p_k ⟨_, rfl, ?_⟩ | refine w_rnil ?_ | refine w_rcons ?_ | refine w_c ?_ | refine w_var rfl ?_ | refine w_varO rfl ?_ | refine w_nil ?_ | refine w_s rfl ?_ | refine w_v ?_ | refine w_prim ?_ | refine w_call ?_ | refine w_callT ?_ | refine w_methV ?_ | refine w_dnil ?_ | refine w_dcons ?_ | refine w_tup ?_ | refine w_lst ?_ | refine w_if ?_ | refine w_and ?_ | refine w_or ?_ | refine w_not ?_ | refine w_chain ?_ | refine w_sl ?_ | refine w_as rfl ?_ | refine w_av ?_ | refine w_bno ?_ | refine w_bat ?_ | refine w_fapp rfl ?_ | refine t_bl ?_ | refine t_val ?_ | refine t_and ?_ | refine t_or ?_ | refine t_not ?_ | refine i_ex ?_ | refine i_fz rfl rfl ?_ | refine i_rng ?_ | refine W.mk ?_ | refine ⟨_, _, rfl, rfl, ?_⟩ | refine ⟨_, rfl, ?_⟩)
    have hnm : ∃ x : Str, pIx [.lst (ns.map .str), .int i] = some ⟨.str x, false⟩ ∧ okS 8 x ∧ ns.take (i + 1) = ns.take i ++ [x] := by
      have hlt : i < ns.length := by omega
      refine ⟨ns[i], pIx_ok rfl (atI_nat (by rw [List.getElem?_map, List.getElem?_eq_getElem hlt]; rfl)), ho _ (List.getElem_mem ..), ?_⟩
      rw [List.take_add_one, List.getElem?_eq_getElem hlt]; rfl
    obtain ⟨x, hx, hxo, htk⟩ := hnm
    refine ⟨_, _, rfl, hx, ?_⟩
    repeat (first | refine s_seq ?_ | refine s_nil ?_ | refine s_set ?_ | refine s_if ?_ | refine s_ret ?_ | refine s_retV rfl ?_ | refine s_retO rfl ?_ | refine s_expr ?_ | refine s_unp ?_ | refine s_star ?_ | refine s_par ?_ | refine s_put ?_ | refine s_unpAt ?_ | refine p_k ⟨_, rfl, ?_⟩ | refine w_rnil ?_ | refine w_rcons ?_ | refine w_c ?_ | refine w_var rfl ?_ | refine w_varO rfl ?_ | refine w_nil ?_ | refine w_s rfl ?_ | refine w_v ?_ | refine w_prim ?_ | refine w_call ?_ | refine w_callT ?_ | refine w_methV ?_ | refine w_dnil ?_ | refine w_dcons ?_ | refine w_tup ?_ | refine w_lst ?_ | refine w_if ?_ | refine w_and ?_ | refine w_or ?_ | refine w_not ?_ | refine w_chain ?_ | refine w_sl ?_ | refine w_as rfl ?_ | refine w_av ?_ | refine w_bno ?_ | refine w_bat ?_ | refine w_fapp rfl ?_ | refine t_bl ?_ | refine t_val ?_ | refine t_and ?_ | refine t_or ?_ | refine t_not ?_ | refine i_ex ?_ | refine i_fz rfl rfl ?_ | refine i_rng ?_ | refine W.mk ?_ | refine ⟨_, _, rfl, rfl, ?_⟩ | refine ⟨_, rfl, ?_⟩)
    have hpl : ps.length = i := by
      have := congrArg List.length hp
      rw [List.length_map, List.length_take] at this
      omega
    refine ⟨by have := sizeLine_eq; show 3 ≤ sizeLine; omega, _, rfl, by rw [List.length_map]; have := sizeLine_eq; omega, ?_⟩
    repeat (first | refine s_seq ?_ | refine s_nil ?_ | refine s_set ?_ | refine s_if ?_ | refine s_ret ?_ | refine s_retV rfl ?_ | refine s_retO rfl ?_ | refine s_expr ?_ | refine s_unp ?_ | refine s_star ?_ | refine s_par ?_ | refine s_put ?_ | refine s_unpAt ?_ | refine p_k ⟨_, rfl, ?_⟩ | refine w_rnil ?_ | refine w_rcons ?_ | refine w_c ?_ | refine w_var rfl ?_ | refine w_varO rfl ?_ | refine w_nil ?_ | refine w_s rfl ?_ | refine w_v ?_ | refine w_prim ?_ | refine w_call ?_ | refine w_callT ?_ | refine w_methV ?_ | refine w_dnil ?_ | refine w_dcons ?_ | refine w_tup ?_ | refine w_lst ?_ | refine w_if ?_ | refine w_and ?_ | refine w_or ?_ | refine w_not ?_ | refine w_chain ?_ | refine w_sl ?_ | refine w_as rfl ?_ | refine w_av ?_ | refine w_bno ?_ | refine w_bat ?_ | refine w_fapp rfl ?_ | refine t_bl ?_ | refine t_val ?_ | refine t_and ?_ | refine t_or ?_ | refine t_not ?_ | refine i_ex ?_ | refine i_fz rfl rfl ?_ | refine i_rng ?_ | refine W.mk ?_ | refine ⟨_, _, rfl, rfl, ?_⟩ | refine ⟨_, rfl, ?_⟩)
    refine ⟨ps ++ [⟨x, ms, os⟩], _, _, _, _, by rw [List.map_append]; rfl, ?_, ?_, hB3.mono (by omega), .fz, .fz, .fz⟩
    · rw [List.map_append, hp, htk]; rfl
    · intro p hp2
      rcases List.mem_append.mp hp2 with h | h
      · exact hk p h
      · rw [List.mem_singleton.mp h]
        exact ⟨hxo, by rw [hml]; omega, by rw [hml]; omega, hmo, by rw [hop.length_eq]; omega, fun s hs => hmo s (hz.subset (hop.mem_iff.mp hs)), hmn⟩
  · rintro _ ⟨ps, xs, a, b, e, rfl, hp, hk, hB1, fa, fb, fe⟩
    rw [rangeD_lenN] at hp hB1
    repeat (first | refine s_seq ?_ | refine s_nil ?_ | refine s_set ?_ | refine s_if ?_ | refine s_ret ?_ | refine s_retV rfl ?_ | refine s_retO rfl ?_ | refine s_expr ?_ | refine s_unp ?_ | refine s_star ?_ | refine s_par ?_ | refine s_put ?_ | refine s_unpAt ?_ | refine p_k ⟨_, rfl, ?_⟩ | refine w_rnil ?_ | refine w_rcons ?_ | refine w_c ?_ | refine w_var rfl ?_ | refine w_varO rfl ?_ | refine w_nil ?_ | refine w_s rfl ?_ | refine w_v ?_ | refine w_prim ?_ | refine w_call ?_ | refine w_callT ?_ | refine w_methV ?_ | refine w_dnil ?_ | refine w_dcons ?_ | refine w_tup ?_ | refine w_lst ?_ | refine w_if ?_ | refine w_and ?_ | refine w_or ?_ | refine w_not ?_ | refine w_chain ?_ | refine w_sl ?_ | refine w_as rfl ?_ | refine w_av ?_ | refine w_bno ?_ | refine w_bat ?_ | refine w_fapp rfl ?_ | refine t_bl ?_ | refine t_val ?_ | refine t_and ?_ | refine t_or ?_ | refine t_not ?_ | refine i_ex ?_ | refine i_fz rfl rfl ?_ | refine i_rng ?_ | refine W.mk ?_ | refine ⟨_, _, rfl, rfl, ?_⟩ | refine ⟨_, rfl, ?_⟩)
    have hpl : ps.length = c := by
      have := congrArg List.length hp
      rw [List.length_map, List.length_take] at this
      omega
    have hnd : (ps.map Pt.nm).Nodup := by
      rw [hp]
      exact hd.sublist (List.take_sublist ..)
    obtain ⟨qs, hq, perm⟩ := sorted_parts (by omega) hnd
    refine ⟨_, _, rfl, hq, ?_⟩
    repeat (first | refine s_seq ?_ | refine s_nil ?_ | refine s_set ?_ | refine s_if ?_ | refine s_ret ?_ | refine s_retV rfl ?_ | refine s_retO rfl ?_ | refine s_expr ?_ | refine s_unp ?_ | refine s_star ?_ | refine s_par ?_ | refine s_put ?_ | refine s_unpAt ?_ | refine p_k ⟨_, rfl, ?_⟩ | refine w_rnil ?_ | refine w_rcons ?_ | refine w_c ?_ | refine w_var rfl ?_ | refine w_varO rfl ?_ | refine w_nil ?_ | refine w_s rfl ?_ | refine w_v ?_ | refine w_prim ?_ | refine w_call ?_ | refine w_callT ?_ | refine w_methV ?_ | refine w_dnil ?_ | refine w_dcons ?_ | refine w_tup ?_ | refine w_lst ?_ | refine w_if ?_ | refine w_and ?_ | refine w_or ?_ | refine w_not ?_ | refine w_chain ?_ | refine w_sl ?_ | refine w_as rfl ?_ | refine w_av ?_ | refine w_bno ?_ | refine w_bat ?_ | refine w_fapp rfl ?_ | refine t_bl ?_ | refine t_val ?_ | refine t_and ?_ | refine t_or ?_ | refine t_not ?_ | refine i_ex ?_ | refine i_fz rfl rfl ?_ | refine i_rng ?_ | refine W.mk ?_ | refine ⟨_, _, rfl, rfl, ?_⟩ | refine ⟨_, rfl, ?_⟩)
    exact ⟨qs, _, rfl, rfl, rfl, by rw [perm.length_eq, hpl], fun p h => hk p (perm.mem_iff.mp h), (perm.map Pt.nm).nodup_iff.mpr hnd, hB1.mono (by omega)⟩
end L26
set_option autoImplicit false
set_option Elab.async false
set_option linter.all false
set_option maxRecDepth 100000
set_option pp.maxSteps 500
set_option pp.deepTerms false
namespace L26
open PySem L2 Wt
/-! ### boxes and pipes -/
structure Bo where
  nm : Str
  cap : Nat
  low : Nat
  high : Nat
def Bo.d (b : Bo) : D := .tup [.str b.nm, .int b.cap, .int b.low, .int b.high]
def Bo.ok (b : Bo) : Prop := okS 8 b.nm ∧ 1 ≤ b.cap ∧ b.cap ≤ 9 ∧ b.low ≤ b.cap ∧ b.high ≤ b.cap
/-- tuples, texts and ints, so deep at most -/
inductive Lay : Nat → D → Prop
  | str {k : Nat} {s : Str} (h : okS 8 s) : Lay k (.str s)
  | int {k : Nat} {i : Int} (h0 : 0 ≤ i) (h1 : i ≤ 1000) : Lay k (.int i)
  | tup {k : Nat} {ds : List D} (hl : ds.length ≤ 6) (h : ∀ d ∈ ds, Lay k d) : Lay (k + 1) (.tup ds)
theorem lay_strs {k : Nat} (ys : List Str) (hl : ys.length ≤ 6) (ho : ∀ y ∈ ys, okS 8 y) : Lay (k + 1) (.tup (ys.map .str)) := .tup (by rw [List.length_map]; exact hl) fun d hd => by
  obtain ⟨s, hs, rfl⟩ := List.mem_map.mp hd
  exact .str (ho s hs)
theorem add_lst {xs ys : List D} (h : xs.length + ys.length ≤ 1000) : pAdd [.lst xs, .lst ys] = some ⟨.lst (xs ++ ys), true⟩ := by
  refine if_pos ?_
  have := sizeLine_eq
  omega
theorem stores2 {i j : Nat} {r r2 : RV} {σ σ1 σ2 : Stt} (h1 : storeS i r σ = some σ1) (h2 : storeS j r2 σ1 = some σ2) : storesS [i, j] [r, r2] σ = some σ2 := by
  show (match storeS i r σ with | some σ2 => storesS [j] [r2] σ2 | none => none) = _
  rw [h1]
  show (match storeS j r2 σ1 with | some σ2 => storesS [] [] σ2 | none => none) = _
  rw [h2]; rfl
theorem ix_strs {sp : List Str} {i : Int} (h0 : 0 ≤ i) (h1 : i < sp.length) : ∃ x : Str, x ∈ sp ∧ pIx [.lst (sp.map .str), .int i] = some ⟨.str x, false⟩ := by
  obtain ⟨m, rfl⟩ := Int.eq_ofNat_of_zero_le h0
  have hm : m < sp.length := by omega
  exact ⟨sp[m], List.getElem_mem .., pIx_ok rfl (atI_nat (by rw [List.getElem?_map, List.getElem?_eq_getElem hm]; rfl))⟩
set_option maxHeartbeats 4000000 in
theorem pipes_spec {n : Nat} {d : D} {bs : List Bo} {ps : List Pt} {c : Nat} (hB : Bx n d) (hn : n < 100000000) (hb : bs ≠ []) (hbl : bs.length ≤ 3) (hbo : ∀ b ∈ bs, b.ok) (hp : ps ≠ []) (hpl : ps.length ≤ 4) (hpo : ∀ p ∈ ps, p.ok) (hc : c ≤ 5) :
    Wo (G_l_pipes_by [d, .tup (bs.map Bo.d), .tup (ps.map Pt.d), .int c]) fun v fr refs => ∃ (ds : List D) (d' : D), v = .tup ds ∧ fr = false ∧ refs = [d'] ∧ ds.length ≤ 5 ∧ (∀ x ∈ ds, Lay 1 x) ∧ Bx (n + 30) d' := by
  obtain ⟨xs, ex⟩ := hB.lst
  subst ex
  refine w_def (σ := [.ln (.lst xs), .fz (.tup (bs.map Bo.d)), .fz (.tup (ps.map Pt.d)), .fz (.int c), .no, .no, .no, .no, .no, .no, .no, .no]) rfl ?_
  unfold F_l_pipes_by
  refine s_seq ?_
  refine s_par ?_
  refine w_rcons ?_
  refine w_prim ?_
  refine w_v ?_
  refine w_lc ?_
  refine i_fz rfl rfl ?_
  refine ⟨rfl, fun i acc s => acc = (bs.take i).map (fun b => D.str b.nm) ∧ ∃ a, s = [.ln (.lst xs), .fz (.tup (bs.map Bo.d)), .fz (.tup (ps.map Pt.d)), .fz (.int c), .no, .no, .no, .no, .no, .no, .no, a] ∧ Free a, ⟨by simp, .no, rfl, .no⟩, ?_, ?_⟩
  · rintro i d acc s hd ⟨rfl, a, rfl, fa⟩
    rw [List.getElem?_map] at hd
    obtain ⟨b, hb2, rfl⟩ := Option.map_eq_some_iff.mp hd
    refine ⟨_, rfl, ?_⟩
    repeat (first | refine s_seq ?_ | refine s_nil ?_ | refine s_set ?_ | refine s_if ?_ | refine s_ret ?_ | refine s_retV rfl ?_ | refine s_retO rfl ?_ | refine s_expr ?_ | refine s_unp ?_ | refine s_star ?_ | refine s_par ?_ | refine s_put ?_ | refine s_unpAt ?_ | refine p_k ⟨_, rfl, ?_⟩ | refine w_rnil ?_ | refine w_rcons ?_ | refine w_c ?_ | refine w_var rfl ?_ | refine w_varO rfl ?_ | refine w_nil ?_ | refine w_s rfl ?_ | refine w_v ?_ | refine w_prim ?_ | refine w_call ?_ | refine w_callT ?_ | refine w_methV ?_ | refine w_dnil ?_ | refine w_dcons ?_ | refine w_tup ?_ | refine w_lst ?_ | refine w_if ?_ | refine w_and ?_ | refine w_or ?_ | refine w_not ?_ | refine w_chain ?_ | refine w_sl ?_ | refine w_as rfl ?_ | refine w_av ?_ | refine w_bno ?_ | refine w_bat ?_ | refine w_fapp rfl ?_ | refine t_bl ?_ | refine t_val ?_ | refine t_and ?_ | refine t_or ?_ | refine t_not ?_ | refine i_ex ?_ | refine i_fz rfl rfl ?_ | refine i_rng ?_ | refine W.mk ?_ | refine ⟨_, _, rfl, rfl, ?_⟩ | refine ⟨_, rfl, ?_⟩)
    have htk : (bs.take (i + 1)).map (fun b => D.str b.nm) = (bs.take i).map (fun b => D.str b.nm) ++ [.str b.nm] := by
      rw [List.take_add_one, hb2, List.map_append]; rfl
    refine ⟨by rw [List.length_map, List.length_take]; have := sizeLine_eq; omega, htk.symm, _, rfl, .fz⟩
  rintro acc s ⟨rfl, a, rfl, fa⟩
  have e1 : bs.take (bs.map Bo.d).length = bs := by rw [List.length_map, List.take_length]
  rw [e1]
  refine w_v ?_
  refine w_lst ?_
  refine w_dcons ?_
  refine w_c ?_
  refine w_dnil ?_
  refine ⟨by have := sizeLine_eq; show 1 ≤ sizeLine; omega, ?_⟩
  refine w_nil ?_
  refine ⟨_, _, rfl, add_lst (by rw [List.length_map]; show bs.length + 1 ≤ 1000; omega), ?_⟩
  have esp : ∃ sp : List Str, bs.map (fun b => D.str b.nm) ++ [D.str ""] = sp.map .str ∧ sp.length = bs.length + 1 ∧ ∀ s ∈ sp, okS 8 s := ⟨bs.map Bo.nm ++ [("" : Str)], by rw [List.map_append, List.map_map]; rfl, by simp, fun s hs => by
    rcases List.mem_append.mp hs with h | h
    · obtain ⟨b, hb, rfl⟩ := List.mem_map.mp h
      exact (hbo b hb).1
    · rw [List.mem_singleton.mp h]
      exact ⟨by decide, by decide⟩⟩
  obtain ⟨sp, esp, hsl, hso⟩ := esp
  have hb1 : 0 < bs.length := List.length_pos_iff.mpr hb
  have hp1 : 0 < ps.length := List.length_pos_iff.mpr hp
  rw [esp]
  refine w_rcons ?_
  refine w_lst ?_
  refine w_dnil ?_
  refine ⟨Nat.zero_le _, ?_⟩
  refine w_rnil ?_
  refine ⟨_, rfl, ?_⟩
  have hsm : small (c : Int) = true := small_of (by omega) (by omega)
  refine s_seq ?_
  refine s_for ?_
  refine i_rng ?_
  refine w_var rfl ?_
  refine ⟨_, rfl, hsm, fun i s => ∃ (ds xs : List D) (a b e f g : Sl), s = [.ln (.lst xs), .fz (.tup (bs.map Bo.d)), .fz (.tup (ps.map Pt.d)), .fz (.int c), a, .ow (.lst (sp.map .str)), .ow (.lst ds), b, e, f, g, .no] ∧ (∀ x ∈ ds, Lay 1 x) ∧ ds.length = i ∧ Bx (n + 6 * i) (.lst xs) ∧ Free a ∧ Free b ∧ Free e ∧ Free f ∧ Free g, ⟨[], xs, .no, .no, .no, .no, .no, rfl, by simp, rfl, hB, .no, .no, .no, .no, .no⟩, ?_, ?_⟩
  · rintro i d _ hd2 ⟨ds, xs, a, b, e, f, g, rfl, hL, hdl, hB1, fa, fb, fe, ff, fg⟩
    obtain ⟨hi, rfl⟩ := rangeD_get hd2
    have hic : i < c := hi
    refine ⟨_, put_free rfl fa, ?_⟩
    refine s_seq ?_
    refine s_par ?_
    have hsl2 : (sp.map D.str).length = bs.length + 1 := by rw [List.length_map, hsl]
    refine w_rcons ?_
    refine w_call ?_
    refine w_s rfl ?_
    refine w_v ?_
    refine w_prim ?_
    refine w_s rfl ?_
    refine w_nil ?_
    refine ⟨_, _, rfl, pLen_ok rfl, ?_⟩
    refine w_nil ?_
    refine ⟨rfl, _, rfl, (take_spec (k := 2) hB1 (by omega) (by omega) (by omega)).mono ?_⟩
    rintro _ _ _ ⟨q, _, rfl, rfl, rfl, hB2, q0, q1⟩
    obtain ⟨xhB2, ex⟩ := hB2.lst
    subst ex
    refine ⟨_, rfl, ?_⟩
    repeat (first | refine s_seq ?_ | refine s_nil ?_ | refine s_set ?_ | refine s_if ?_ | refine s_ret ?_ | refine s_retV rfl ?_ | refine s_retO rfl ?_ | refine s_expr ?_ | refine s_unp ?_ | refine s_star ?_ | refine s_par ?_ | refine s_put ?_ | refine s_unpAt ?_ | refine p_k ⟨_, rfl, ?_⟩ | refine w_rnil ?_ | refine w_rcons ?_ | refine w_c ?_ | refine w_var rfl ?_ | refine w_varO rfl ?_ | refine w_nil ?_ | refine w_s rfl ?_ | refine w_v ?_ | refine w_prim ?_ | refine w_call ?_ | refine w_callT ?_ | refine w_methV ?_ | refine w_dnil ?_ | refine w_dcons ?_ | refine w_tup ?_ | refine w_lst ?_ | refine w_if ?_ | refine w_and ?_ | refine w_or ?_ | refine w_not ?_ | refine w_chain ?_ | refine w_sl ?_ | refine w_as rfl ?_ | refine w_av ?_ | refine w_bno ?_ | refine w_bat ?_ | refine w_fapp rfl ?_ | refine t_bl ?_ | refine t_val ?_ | refine t_and ?_ | refine t_or ?_ | refine t_not ?_ | refine i_ex ?_ | refine i_fz rfl rfl ?_ | refine i_rng ?_ | refine W.mk ?_ | refine ⟨_, _, rfl, rfl, ?_⟩ | refine ⟨_, rfl, ?_⟩)
    refine ⟨rfl, _, rfl, (of_spec (k := 0) hB2 (by omega) rfl (by rw [List.length_map]; omega) (by rw [List.length_map]; omega)).mono ?_⟩
    rintro _ _ _ ⟨rfl, hv, d', rfl, hB3⟩
    obtain ⟨p, hpm, rfl⟩ := List.mem_map.mp hv
    obtain ⟨x3, ex⟩ := hB3.lst
    subst ex
    refine ⟨_, rfl, ?_⟩
    refine w_rnil ?_
    refine ⟨_, stores2 (store_free rfl ff) (store_free rfl fg), ?_⟩
    refine s_seq ?_
    refine s_set ?_
    refine w_prim ?_
    refine w_s rfl ?_
    repeat (first | refine s_seq ?_ | refine s_nil ?_ | refine s_set ?_ | refine s_if ?_ | refine s_ret ?_ | refine s_retV rfl ?_ | refine s_retO rfl ?_ | refine s_expr ?_ | refine s_unp ?_ | refine s_star ?_ | refine s_par ?_ | refine s_put ?_ | refine s_unpAt ?_ | refine p_k ⟨_, rfl, ?_⟩ | refine w_rnil ?_ | refine w_rcons ?_ | refine w_c ?_ | refine w_var rfl ?_ | refine w_varO rfl ?_ | refine w_nil ?_ | refine w_s rfl ?_ | refine w_v ?_ | refine w_prim ?_ | refine w_call ?_ | refine w_callT ?_ | refine w_methV ?_ | refine w_dnil ?_ | refine w_dcons ?_ | refine w_tup ?_ | refine w_lst ?_ | refine w_if ?_ | refine w_and ?_ | refine w_or ?_ | refine w_not ?_ | refine w_chain ?_ | refine w_sl ?_ | refine w_as rfl ?_ | refine w_av ?_ | refine w_bno ?_ | refine w_bat ?_ | refine w_fapp rfl ?_ | refine t_bl ?_ | refine t_val ?_ | refine t_and ?_ | refine t_or ?_ | refine t_not ?_ | refine i_ex ?_ | refine i_fz rfl rfl ?_ | refine i_rng ?_ | refine W.mk ?_ | refine ⟨_, _, rfl, rfl, ?_⟩ | refine ⟨_, rfl, ?_⟩)
    refine ⟨rfl, _, rfl, (take_spec (k := 2) hB3 (by omega) (by omega) (by omega)).mono ?_⟩
    rintro _ _ _ ⟨q2, _, rfl, rfl, rfl, hB4, q20, q21⟩
    obtain ⟨xhB4, ex⟩ := hB4.lst
    subst ex
    refine ⟨_, rfl, ?_⟩
    repeat (first | refine s_seq ?_ | refine s_nil ?_ | refine s_set ?_ | refine s_if ?_ | refine s_ret ?_ | refine s_retV rfl ?_ | refine s_retO rfl ?_ | refine s_expr ?_ | refine s_unp ?_ | refine s_star ?_ | refine s_par ?_ | refine s_put ?_ | refine s_unpAt ?_ | refine p_k ⟨_, rfl, ?_⟩ | refine w_rnil ?_ | refine w_rcons ?_ | refine w_c ?_ | refine w_var rfl ?_ | refine w_varO rfl ?_ | refine w_nil ?_ | refine w_s rfl ?_ | refine w_v ?_ | refine w_prim ?_ | refine w_call ?_ | refine w_callT ?_ | refine w_methV ?_ | refine w_dnil ?_ | refine w_dcons ?_ | refine w_tup ?_ | refine w_lst ?_ | refine w_if ?_ | refine w_and ?_ | refine w_or ?_ | refine w_not ?_ | refine w_chain ?_ | refine w_sl ?_ | refine w_as rfl ?_ | refine w_av ?_ | refine w_bno ?_ | refine w_bat ?_ | refine w_fapp rfl ?_ | refine t_bl ?_ | refine t_val ?_ | refine t_and ?_ | refine t_or ?_ | refine t_not ?_ | refine i_ex ?_ | refine i_fz rfl rfl ?_ | refine i_rng ?_ | refine W.mk ?_ | refine ⟨_, _, rfl, rfl, ?_⟩ | refine ⟨_, rfl, ?_⟩)
    refine ⟨_, _, rfl, mod_ok (by omega), ?_⟩
    repeat (first | refine s_seq ?_ | refine s_nil ?_ | refine s_set ?_ | refine s_if ?_ | refine s_ret ?_ | refine s_retV rfl ?_ | refine s_retO rfl ?_ | refine s_expr ?_ | refine s_unp ?_ | refine s_star ?_ | refine s_par ?_ | refine s_put ?_ | refine s_unpAt ?_ | refine p_k ⟨_, rfl, ?_⟩ | refine w_rnil ?_ | refine w_rcons ?_ | refine w_c ?_ | refine w_var rfl ?_ | refine w_varO rfl ?_ | refine w_nil ?_ | refine w_s rfl ?_ | refine w_v ?_ | refine w_prim ?_ | refine w_call ?_ | refine w_callT ?_ | refine w_methV ?_ | refine w_dnil ?_ | refine w_dcons ?_ | refine w_tup ?_ | refine w_lst ?_ | refine w_if ?_ | refine w_and ?_ | refine w_or ?_ | refine w_not ?_ | refine w_chain ?_ | refine w_sl ?_ | refine w_as rfl ?_ | refine w_av ?_ | refine w_bno ?_ | refine w_bat ?_ | refine w_fapp rfl ?_ | refine t_bl ?_ | refine t_val ?_ | refine t_and ?_ | refine t_or ?_ | refine t_not ?_ | refine i_ex ?_ | refine i_fz rfl rfl ?_ | refine i_rng ?_ | refine W.mk ?_ | refine ⟨_, _, rfl, rfl, ?_⟩ | refine ⟨_, rfl, ?_⟩)
    obtain ⟨g1, hgm1, hg1⟩ := ix_strs (sp := sp) (i := (q + 1 + q2) % ↑(List.map D.str sp).length) (Int.emod_nonneg _ (by omega)) (by rw [← List.length_map (f := D.str)]; exact Int.emod_lt_of_pos _ (by omega))
    refine ⟨_, _, rfl, hg1, ?_⟩
    refine ⟨_, store_free rfl fb, ?_⟩
    repeat (first | refine s_seq ?_ | refine s_nil ?_ | refine s_set ?_ | refine s_if ?_ | refine s_ret ?_ | refine s_retV rfl ?_ | refine s_retO rfl ?_ | refine s_expr ?_ | refine s_unp ?_ | refine s_star ?_ | refine s_par ?_ | refine s_put ?_ | refine s_unpAt ?_ | refine p_k ⟨_, rfl, ?_⟩ | refine w_rnil ?_ | refine w_rcons ?_ | refine w_c ?_ | refine w_var rfl ?_ | refine w_varO rfl ?_ | refine w_nil ?_ | refine w_s rfl ?_ | refine w_v ?_ | refine w_prim ?_ | refine w_call ?_ | refine w_callT ?_ | refine w_methV ?_ | refine w_dnil ?_ | refine w_dcons ?_ | refine w_tup ?_ | refine w_lst ?_ | refine w_if ?_ | refine w_and ?_ | refine w_or ?_ | refine w_not ?_ | refine w_chain ?_ | refine w_sl ?_ | refine w_as rfl ?_ | refine w_av ?_ | refine w_bno ?_ | refine w_bat ?_ | refine w_fapp rfl ?_ | refine t_bl ?_ | refine t_val ?_ | refine t_and ?_ | refine t_or ?_ | refine t_not ?_ | refine i_ex ?_ | refine i_fz rfl rfl ?_ | refine i_rng ?_ | refine W.mk ?_ | refine ⟨_, _, rfl, rfl, ?_⟩ | refine ⟨_, rfl, ?_⟩)
    refine ⟨rfl, _, rfl, (take_spec (k := 2) hB4 (by omega) (by omega) (by omega)).mono ?_⟩
    rintro _ _ _ ⟨q3, _, rfl, rfl, rfl, hB5, q30, q31⟩
    obtain ⟨xhB5, ex⟩ := hB5.lst
    subst ex
    refine ⟨_, rfl, ?_⟩
    repeat (first | refine s_seq ?_ | refine s_nil ?_ | refine s_set ?_ | refine s_if ?_ | refine s_ret ?_ | refine s_retV rfl ?_ | refine s_retO rfl ?_ | refine s_expr ?_ | refine s_unp ?_ | refine s_star ?_ | refine s_par ?_ | refine s_put ?_ | refine s_unpAt ?_ | refine p_k ⟨_, rfl, ?_⟩ | refine w_rnil ?_ | refine w_rcons ?_ | refine w_c ?_ | refine w_var rfl ?_ | refine w_varO rfl ?_ | refine w_nil ?_ | refine w_s rfl ?_ | refine w_v ?_ | refine w_prim ?_ | refine w_call ?_ | refine w_callT ?_ | refine w_methV ?_ | refine w_dnil ?_ | refine w_dcons ?_ | refine w_tup ?_ | refine w_lst ?_ | refine w_if ?_ | refine w_and ?_ | refine w_or ?_ | refine w_not ?_ | refine w_chain ?_ | refine w_sl ?_ | refine w_as rfl ?_ | refine w_av ?_ | refine w_bno ?_ | refine w_bat ?_ | refine w_fapp rfl ?_ | refine t_bl ?_ | refine t_val ?_ | refine t_and ?_ | refine t_or ?_ | refine t_not ?_ | refine i_ex ?_ | refine i_fz rfl rfl ?_ | refine i_rng ?_ | refine W.mk ?_ | refine ⟨_, _, rfl, rfl, ?_⟩ | refine ⟨_, rfl, ?_⟩)
    refine ⟨_, store_free rfl fe, ?_⟩
    refine s_seq ?_
    refine s_expr ?_
    refine w_fapp rfl ?_
    refine w_tup ?_
    refine w_dcons ?_
    refine w_prim ?_
    refine w_s rfl ?_
    refine w_s rfl ?_
    refine w_nil ?_
    obtain ⟨g2, hgm2, hg2⟩ := ix_strs (sp := sp) (i := q) q0 (by omega)
    refine ⟨_, _, rfl, hg2, ?_⟩
    repeat (first | refine s_seq ?_ | refine s_nil ?_ | refine s_set ?_ | refine s_if ?_ | refine s_ret ?_ | refine s_retV rfl ?_ | refine s_retO rfl ?_ | refine s_expr ?_ | refine s_unp ?_ | refine s_star ?_ | refine s_par ?_ | refine s_put ?_ | refine s_unpAt ?_ | refine p_k ⟨_, rfl, ?_⟩ | refine w_rnil ?_ | refine w_rcons ?_ | refine w_c ?_ | refine w_var rfl ?_ | refine w_varO rfl ?_ | refine w_nil ?_ | refine w_s rfl ?_ | refine w_v ?_ | refine w_prim ?_ | refine w_call ?_ | refine w_callT ?_ | refine w_methV ?_ | refine w_dnil ?_ | refine w_dcons ?_ | refine w_tup ?_ | refine w_lst ?_ | refine w_if ?_ | refine w_and ?_ | refine w_or ?_ | refine w_not ?_ | refine w_chain ?_ | refine w_sl ?_ | refine w_as rfl ?_ | refine w_av ?_ | refine w_bno ?_ | refine w_bat ?_ | refine w_fapp rfl ?_ | refine t_bl ?_ | refine t_val ?_ | refine t_and ?_ | refine t_or ?_ | refine t_not ?_ | refine i_ex ?_ | refine i_fz rfl rfl ?_ | refine i_rng ?_ | refine W.mk ?_ | refine ⟨_, _, rfl, rfl, ?_⟩ | refine ⟨_, rfl, ?_⟩)
    have hmd := hpo p hpm
    have hm2 := hmd.2.1
    have hm3 := hmd.2.2.1
    refine ⟨rfl, _, rfl, (of_spec (k := 0) hB5 (by omega) rfl (by rw [List.length_map]; omega) (by rw [List.length_map]; omega)).mono ?_⟩
    rintro _ _ _ ⟨rfl, hv2, d2, rfl, hB6⟩
    obtain ⟨md, hmdm, rfl⟩ := List.mem_map.mp hv2
    obtain ⟨x6, ex⟩ := hB6.lst
    subst ex
    refine ⟨_, rfl, ?_⟩
    repeat (first | refine s_seq ?_ | refine s_nil ?_ | refine s_set ?_ | refine s_if ?_ | refine s_ret ?_ | refine s_retV rfl ?_ | refine s_retO rfl ?_ | refine s_expr ?_ | refine s_unp ?_ | refine s_star ?_ | refine s_par ?_ | refine s_put ?_ | refine s_unpAt ?_ | refine p_k ⟨_, rfl, ?_⟩ | refine w_rnil ?_ | refine w_rcons ?_ | refine w_c ?_ | refine w_var rfl ?_ | refine w_varO rfl ?_ | refine w_nil ?_ | refine w_s rfl ?_ | refine w_v ?_ | refine w_prim ?_ | refine w_call ?_ | refine w_callT ?_ | refine w_methV ?_ | refine w_dnil ?_ | refine w_dcons ?_ | refine w_tup ?_ | refine w_lst ?_ | refine w_if ?_ | refine w_and ?_ | refine w_or ?_ | refine w_not ?_ | refine w_chain ?_ | refine w_sl ?_ | refine w_as rfl ?_ | refine w_av ?_ | refine w_bno ?_ | refine w_bat ?_ | refine w_fapp rfl ?_ | refine t_bl ?_ | refine t_val ?_ | refine t_and ?_ | refine t_or ?_ | refine t_not ?_ | refine i_ex ?_ | refine i_fz rfl rfl ?_ | refine i_rng ?_ | refine W.mk ?_ | refine ⟨_, _, rfl, rfl, ?_⟩ | refine ⟨_, rfl, ?_⟩)
    refine ⟨rfl, _, rfl, (take_spec (k := 2) hB6 (by omega) (by omega) (by omega)).mono ?_⟩
    rintro _ _ _ ⟨q4, _, rfl, rfl, rfl, hB7, q40, q41⟩
    obtain ⟨xhB7, ex⟩ := hB7.lst
    subst ex
    refine ⟨_, rfl, ?_⟩
    repeat (first | refine s_seq ?_ | refine s_nil ?_ | refine s_set ?_ | refine s_if ?_ | refine s_ret ?_ | refine s_retV rfl ?_ | refine s_retO rfl ?_ | refine s_expr ?_ | refine s_unp ?_ | refine s_star ?_ | refine s_par ?_ | refine s_put ?_ | refine s_unpAt ?_ | refine p_k ⟨_, rfl, ?_⟩ | refine w_rnil ?_ | refine w_rcons ?_ | refine w_c ?_ | refine w_var rfl ?_ | refine w_varO rfl ?_ | refine w_nil ?_ | refine w_s rfl ?_ | refine w_v ?_ | refine w_prim ?_ | refine w_call ?_ | refine w_callT ?_ | refine w_methV ?_ | refine w_dnil ?_ | refine w_dcons ?_ | refine w_tup ?_ | refine w_lst ?_ | refine w_if ?_ | refine w_and ?_ | refine w_or ?_ | refine w_not ?_ | refine w_chain ?_ | refine w_sl ?_ | refine w_as rfl ?_ | refine w_av ?_ | refine w_bno ?_ | refine w_bat ?_ | refine w_fapp rfl ?_ | refine t_bl ?_ | refine t_val ?_ | refine t_and ?_ | refine t_or ?_ | refine t_not ?_ | refine i_ex ?_ | refine i_fz rfl rfl ?_ | refine i_rng ?_ | refine W.mk ?_ | refine ⟨_, _, rfl, rfl, ?_⟩ | refine ⟨_, rfl, ?_⟩)
    refine ⟨by have := sizeLine_eq; show 6 ≤ sizeLine; omega, _, rfl, by have := sizeLine_eq; omega, ?_⟩
    repeat (first | refine s_seq ?_ | refine s_nil ?_ | refine s_set ?_ | refine s_if ?_ | refine s_ret ?_ | refine s_retV rfl ?_ | refine s_retO rfl ?_ | refine s_expr ?_ | refine s_unp ?_ | refine s_star ?_ | refine s_par ?_ | refine s_put ?_ | refine s_unpAt ?_ | refine p_k ⟨_, rfl, ?_⟩ | refine w_rnil ?_ | refine w_rcons ?_ | refine w_c ?_ | refine w_var rfl ?_ | refine w_varO rfl ?_ | refine w_nil ?_ | refine w_s rfl ?_ | refine w_v ?_ | refine w_prim ?_ | refine w_call ?_ | refine w_callT ?_ | refine w_methV ?_ | refine w_dnil ?_ | refine w_dcons ?_ | refine w_tup ?_ | refine w_lst ?_ | refine w_if ?_ | refine w_and ?_ | refine w_or ?_ | refine w_not ?_ | refine w_chain ?_ | refine w_sl ?_ | refine w_as rfl ?_ | refine w_av ?_ | refine w_bno ?_ | refine w_bat ?_ | refine w_fapp rfl ?_ | refine t_bl ?_ | refine t_val ?_ | refine t_and ?_ | refine t_or ?_ | refine t_not ?_ | refine i_ex ?_ | refine i_fz rfl rfl ?_ | refine i_rng ?_ | refine W.mk ?_ | refine ⟨_, _, rfl, rfl, ?_⟩ | refine ⟨_, rfl, ?_⟩)
    refine ⟨ds ++ [_], _, _, _, _, _, _, rfl, ?_, by simp [hdl], hB7.mono (by omega), .fz, .fz, .fz, .fz, .fz⟩
    intro x hx
    rcases List.mem_append.mp hx with h | h
    · exact hL x h
    · rw [List.mem_singleton.mp h]
      refine .tup (by show 6 ≤ 6; omega) fun y hy => ?_
      simp only [List.mem_cons, List.not_mem_nil, or_false] at hy
      rcases hy with rfl | rfl | rfl | rfl | rfl | rfl
      · exact .str (hso _ hgm2)
      · exact .str (hso _ hgm1)
      · exact .str hmd.1
      · exact .str (hmd.2.2.2.1 _ hmdm)
      · exact .int (by omega) (by omega)
      · exact .int (by omega) (by omega)
  · rintro _ ⟨ds, xs, a, b, e, f, g, rfl, hL, hdl, hB1, fa, fb, fe, ff, fg⟩
    rw [rangeD_lenN] at hdl hB1
    repeat (first | refine s_seq ?_ | refine s_nil ?_ | refine s_set ?_ | refine s_if ?_ | refine s_ret ?_ | refine s_retV rfl ?_ | refine s_retO rfl ?_ | refine s_expr ?_ | refine s_unp ?_ | refine s_star ?_ | refine s_par ?_ | refine s_put ?_ | refine s_unpAt ?_ | refine p_k ⟨_, rfl, ?_⟩ | refine w_rnil ?_ | refine w_rcons ?_ | refine w_c ?_ | refine w_var rfl ?_ | refine w_varO rfl ?_ | refine w_nil ?_ | refine w_s rfl ?_ | refine w_v ?_ | refine w_prim ?_ | refine w_call ?_ | refine w_callT ?_ | refine w_methV ?_ | refine w_dnil ?_ | refine w_dcons ?_ | refine w_tup ?_ | refine w_lst ?_ | refine w_if ?_ | refine w_and ?_ | refine w_or ?_ | refine w_not ?_ | refine w_chain ?_ | refine w_sl ?_ | refine w_as rfl ?_ | refine w_av ?_ | refine w_bno ?_ | refine w_bat ?_ | refine w_fapp rfl ?_ | refine t_bl ?_ | refine t_val ?_ | refine t_and ?_ | refine t_or ?_ | refine t_not ?_ | refine i_ex ?_ | refine i_fz rfl rfl ?_ | refine i_rng ?_ | refine W.mk ?_ | refine ⟨_, _, rfl, rfl, ?_⟩ | refine ⟨_, rfl, ?_⟩)
    exact ⟨ds, _, rfl, rfl, rfl, by omega, hL, hB1.mono (by omega)⟩
end L26
set_option autoImplicit false
set_option Elab.async false
set_option linter.all false
set_option maxRecDepth 100000
set_option pp.maxSteps 500
set_option pp.deepTerms false
namespace L26
open PySem L2 Wt
/-! ### deeds -/
structure De where
  nm : Str
  acts : List (Str × Str)
def act (a : Str × Str) : D := .tup [.str a.1, .str a.2]
def De.d (x : De) : D := .tup [.str x.nm, .tup (x.acts.map act)]
def unAct : D → Option (Str × Str)
  | .tup [.str a, .str b] => some (a, b)
  | _ => none
def unDe : D → Option De
  | .tup [.str n, .tup xs] => some ⟨n, xs.filterMap unAct⟩
  | _ => none
theorem unAct_map : ∀ ys : List (Str × Str), (ys.map act).filterMap unAct = ys
  | [] => rfl
  | y :: ys => by rw [List.map_cons, List.filterMap_cons_some (f := unAct) (a := act y) (b := y) rfl, unAct_map ys]
theorem unDe_d (x : De) : unDe x.d = some x := by
  show some (⟨x.nm, (x.acts.map act).filterMap unAct⟩ : De) = some x
  rw [unAct_map]
theorem depth_acts : ∀ ys : List (Str × Str), PyData.depthAll (toPs (ys.map act)) ≤ 2
  | [] => by decide
  | y :: ys => by
    have := depth_acts ys
    show Nat.max _ _ ≤ 2
    refine Nat.max_le.mpr ⟨?_, this⟩
    show PyData.depth (.tuple [.str y.1, .str y.2]) ≤ 2
    simp [PyData.depth, PyData.depthAll]
theorem De.dep (x : De) : (toP x.d).depth ≤ 60 := by
  have a := depth_acts x.acts
  show PyData.depth (.tuple [.str x.nm, .tuple (toPs (x.acts.map act))]) ≤ 60
  simp only [PyData.depth, PyData.depthAll]
  omega
theorem alikeAll_acts : ∀ ys : List (Str × Str), PySem.W.alikeAll (toPs (ys.map act)) (toPs (ys.map act)) = true
  | [] => rfl
  | y :: ys => by
    show (PySem.W.alike (.tuple [.str y.1, .str y.2]) (.tuple [.str y.1, .str y.2]) && PySem.W.alikeAll (toPs (ys.map act)) (toPs (ys.map act))) = true
    rw [alikeAll_acts ys]; simp [PySem.W.alike, PySem.W.alikeAll]
theorem De.alk (x : De) : PySem.W.alike (toP x.d) (toP x.d) = true := by
  show PySem.W.alike (.tuple [.str x.nm, .tuple (toPs (x.acts.map act))]) (.tuple [.str x.nm, .tuple (toPs (x.acts.map act))]) = true
  simp only [PySem.W.alike, PySem.W.alikeAll, alikeAll_acts, Bool.and_true]
theorem De.pl (x : De) : plain x.d = true := by
  show (plain (D.str x.nm) && (plains (x.acts.map act) && true)) = true
  rw [plains_map (f := act) fun _ => rfl]; rfl
theorem sorted_deeds {ps : List De} (hl : ps.length ≤ 1000) (hn : (ps.map De.nm).Nodup) : ∃ qs : List De, pSorted [.lst (ps.map De.d)] = some ⟨.lst (qs.map De.d), true⟩ ∧ qs.Perm ps :=
  sorted_un unDe_d De.pl hl De.dep (by rw [mix_rows (f := De.d) (fun a => ⟨_, rfl⟩) hn De.alk, Bool.or_true])
def De.ok (x : De) : Prop := okS 8 x.nm ∧ x.acts.length ≤ 4 ∧ ∀ a ∈ x.acts, okS 8 a.1 ∧ okS 8 a.2
theorem De.lay (x : De) (hx : x.ok) : Lay 3 x.d := by
  obtain ⟨h0, h1, h2⟩ := hx
  refine .tup (by show 2 ≤ 6; omega) fun y hy => ?_
  simp only [List.mem_cons, List.not_mem_nil, or_false] at hy
  rcases hy with rfl | rfl
  · exact .str h0
  · refine .tup (by rw [List.length_map]; omega) fun z hz => ?_
    obtain ⟨a, ha, rfl⟩ := List.mem_map.mp hz
    refine .tup (by show 2 ≤ 6; omega) fun w hw => ?_
    simp only [List.mem_cons, List.not_mem_nil, or_false] at hw
    rcases hw with rfl | rfl
    · exact .str (h2 a ha).1
    · exact .str (h2 a ha).2
theorem Lay.mono {j k : Nat} {d : D} (h : Lay j d) (hk : j ≤ k) : Lay k d := by
  induction h generalizing k with
  | str h => exact .str h
  | int h0 h1 => exact .int h0 h1
  | tup hl _ ih =>
    obtain ⟨m, rfl⟩ : ∃ m, k = m + 1 := ⟨k - 1, by omega⟩
    exact .tup hl fun d hd => ih d hd (by omega)
theorem store_any {i : Nat} {d : D} {σ : Stt} {s : Sl} (e : σ[i]? = some s) (f : Free s ∨ ∃ y, s = .ow y) : storeS i ⟨d, false⟩ σ = some (σ.set i (.fz d)) := by
  rcases f with f | ⟨y, rfl⟩
  · exact store_free e f
  · unfold storeS
    rw [e]
theorem store_anyO {i : Nat} {ds : List D} {σ : Stt} {s : Sl} (e : σ[i]? = some s) (f : Free s ∨ ∃ y, s = .ow y) : storeS i ⟨.lst ds, true⟩ σ = some (σ.set i (.ow (.lst ds))) := by
  rcases f with f | ⟨y, rfl⟩
  · exact store_freeO e f
  · unfold storeS
    rw [e]
end L26
set_option autoImplicit false
set_option Elab.async false
set_option linter.all false
set_option maxRecDepth 100000
set_option pp.maxSteps 500
set_option pp.deepTerms false
namespace L26
open PySem L2 Wt
theorem aso_app {as : List (Str × Str)} {x : Str × Str} (h : ∀ a ∈ as, okS 8 a.1 ∧ okS 8 a.2) (hx : okS 8 x.1 ∧ okS 8 x.2) : ∀ a ∈ as ++ [x], okS 8 a.1 ∧ okS 8 a.2 := fun y hy => by
  rcases List.mem_append.mp hy with h2 | h2
  · exact h y h2
  · rw [List.mem_singleton.mp h2]; exact hx
theorem ao_app {ds : List De} {x : De} (h : ∀ y ∈ ds, y.ok) (hx : x.ok) : ∀ y ∈ ds ++ [x], y.ok := fun y hy => by
  rcases List.mem_append.mp hy with h2 | h2
  · exact h y h2
  · rw [List.mem_singleton.mp h2]; exact hx
theorem sub_map {α : Type} {f : α → D} {es : List D} {ys : List α} (h : es.Sublist (ys.map f)) : ∃ zs : List α, es = zs.map f ∧ zs.Sublist ys := by
  obtain ⟨zs, hz, e⟩ := List.sublist_map_iff.mp h
  exact ⟨zs, e, hz⟩
set_option maxHeartbeats 4000000 in
theorem deeds_spec {n : Nat} {d : D} {ns : List Str} {ps : List Pt} {c : Nat} (hB : Bx n d) (hn : n < 100000000) (hl : ns.length = 3) (hd : ns.Nodup) (ho : ∀ s ∈ ns, okS 8 s) (hp : ps ≠ []) (hpl : ps.length ≤ 4) (hpo : ∀ p ∈ ps, p.ok) (hc : c ≤ 3) :
    Wo (G_l_deeds_by [d, .lst (ns.map .str), .tup (ps.map Pt.d), .int c]) fun v fr refs => ∃ (ds : List D) (d' : D), v = .tup ds ∧ fr = false ∧ refs = [d'] ∧ ds.length ≤ 4 ∧ (∀ x ∈ ds, Lay 3 x) ∧ Bx (n + 30) d' := by
  obtain ⟨xs, ex⟩ := hB.lst
  subst ex
  refine w_def (σ := [.ln (.lst xs), .fz (.lst (ns.map .str)), .fz (.tup (ps.map Pt.d)), .fz (.int c), .no, .no, .no, .no]) rfl ?_
  unfold F_l_deeds_by
  refine s_seq ?_
  refine s_set ?_
  refine w_lst ?_
  refine w_dnil ?_
  refine ⟨Nat.zero_le _, _, rfl, ?_⟩
  refine s_seq ?_
  have hsm : small (c : Int) = true := small_of (by omega) (by omega)
  refine s_for ?_
  refine i_rng ?_
  refine w_var rfl ?_
  refine ⟨_, rfl, hsm, fun i s => ∃ (ds : List De) (xs : List D) (a b : Sl), s = [.ln (.lst xs), .fz (.lst (ns.map .str)), .fz (.tup (ps.map Pt.d)), .fz (.int c), .ow (.lst (ds.map De.d)), a, b, .no] ∧ ds.map De.nm = ns.take i ∧ (∀ x ∈ ds, x.ok) ∧ Bx (n + 8 * i) (.lst xs) ∧ Free a ∧ (Free b ∨ ∃ y, b = .ow y), ⟨[], xs, .no, .no, rfl, by simp, by simp, hB, .no, .inl .no⟩, ?_, ?_⟩
  · rintro i d _ hd2 ⟨ds, xs, a, b, rfl, hp1, hao, hB1, fa, fb⟩
    obtain ⟨hi, rfl⟩ := rangeD_get hd2
    have hic : i < c := hi
    refine ⟨_, put_free rfl fa, ?_⟩
    repeat (first | refine s_seq ?_ | refine s_nil ?_ | refine s_set ?_ | refine s_if ?_ | refine s_ret ?_ | refine s_retV rfl ?_ | refine s_retO rfl ?_ | refine s_expr ?_ | refine s_unp ?_ | refine s_star ?_ | refine s_par ?_ | refine s_put ?_ | refine s_unpAt ?_ | refine p_k ⟨_, rfl, ?_⟩ | refine w_rnil ?_ | refine w_rcons ?_ | refine w_c ?_ | refine w_var rfl ?_ | refine w_varO rfl ?_ | refine w_nil ?_ | refine w_s rfl ?_ | refine w_v ?_ | refine w_prim ?_ | refine w_call ?_ | refine w_callT ?_ | refine w_methV ?_ | refine w_dnil ?_ | refine w_dcons ?_ | refine w_tup ?_ | refine w_lst ?_ | refine w_if ?_ | refine w_and ?_ | refine w_or ?_ | refine w_not ?_ | refine w_chain ?_ | refine w_sl ?_ | refine w_as rfl ?_ | refine w_av ?_ | refine w_bno ?_ | refine w_bat ?_ | refine w_fapp rfl ?_ | refine t_bl ?_ | refine t_val ?_ | refine t_and ?_ | refine t_or ?_ | refine t_not ?_ | refine i_ex ?_ | refine i_fz rfl rfl ?_ | refine i_rng ?_ | refine W.mk ?_ | refine ⟨_, _, rfl, rfl, ?_⟩ | refine ⟨_, rfl, ?_⟩)
    refine ⟨rfl, _, rfl, (some_spec hB1 (by rw [List.length_map]; omega) (by rw [List.length_map]; omega) (by omega)).mono ?_⟩
    rintro _ fr _ ⟨es, d', rfl, hsub, hle, rfl, hB2⟩
    rw [List.length_map] at hB2
    obtain ⟨zs, rfl, hz⟩ := sub_map hsub
    obtain ⟨x2, ex⟩ := hB2.lst
    subst ex
    have hzl := hz.length_le
    have hnm : ∃ x : Str, pIx [.lst (ns.map .str), .int i] = some ⟨.str x, false⟩ ∧ okS 8 x ∧ ns.take (i + 1) = ns.take i ++ [x] := by
      have hlt : i < ns.length := by omega
      refine ⟨ns[i], pIx_ok rfl (atI_nat (by rw [List.getElem?_map, List.getElem?_eq_getElem hlt]; rfl)), ho _ (List.getElem_mem ..), ?_⟩
      rw [List.take_add_one, List.getElem?_eq_getElem hlt]; rfl
    obtain ⟨x, hx, hxo, htk⟩ := hnm
    refine ⟨_, rfl, ?_⟩
    cases fr
    · refine ⟨_, store_any rfl fb, ?_⟩
      repeat (first | refine s_seq ?_ | refine s_nil ?_ | refine s_set ?_ | refine s_if ?_ | refine s_ret ?_ | refine s_retV rfl ?_ | refine s_retO rfl ?_ | refine s_expr ?_ | refine s_unp ?_ | refine s_star ?_ | refine s_par ?_ | refine s_put ?_ | refine s_unpAt ?_ | refine p_k ⟨_, rfl, ?_⟩ | refine w_rnil ?_ | refine w_rcons ?_ | refine w_c ?_ | refine w_var rfl ?_ | refine w_varO rfl ?_ | refine w_nil ?_ | refine w_s rfl ?_ | refine w_v ?_ | refine w_prim ?_ | refine w_call ?_ | refine w_callT ?_ | refine w_methV ?_ | refine w_dnil ?_ | refine w_dcons ?_ | refine w_tup ?_ | refine w_lst ?_ | refine w_if ?_ | refine w_and ?_ | refine w_or ?_ | refine w_not ?_ | refine w_chain ?_ | refine w_sl ?_ | refine w_as rfl ?_ | refine w_av ?_ | refine w_bno ?_ | refine w_bat ?_ | refine w_fapp rfl ?_ | refine t_bl ?_ | refine t_val ?_ | refine t_and ?_ | refine t_or ?_ | refine t_not ?_ | refine i_ex ?_ | refine i_fz rfl rfl ?_ | refine i_rng ?_ | refine W.mk ?_ | refine ⟨_, _, rfl, rfl, ?_⟩ | refine ⟨_, rfl, ?_⟩)
      refine ⟨_, _, rfl, hx, ?_⟩
      refine w_dcons ?_
      refine w_prim ?_
      refine w_v ?_
      refine w_lc ?_
      refine i_fz rfl rfl ?_
      refine ⟨rfl, fun j acc s => ∃ (as : List (Str × Str)) (xs : List D) (a : Sl), acc = as.map act ∧ as.length = j ∧ (∀ a ∈ as, okS 8 a.1 ∧ okS 8 a.2) ∧ s = [.ln (.lst xs), .fz (.lst (ns.map .str)), .fz (.tup (ps.map Pt.d)), .fz (.int c), .ow (.lst (ds.map De.d)), .fz (.int i), .fz (.lst (zs.map Pt.d)), a] ∧ Bx (n + 8 * i + 4 + j) (.lst xs) ∧ Free a, ⟨[], _, _, rfl, rfl, by simp, rfl, hB2.mono (by omega), .no⟩, ?_, ?_⟩
      · rintro j y acc s hy ⟨as, xs, a, rfl, haj, haso, rfl, hB4, fa2⟩
        rw [List.getElem?_map] at hy
        obtain ⟨p, hpy, rfl⟩ := Option.map_eq_some_iff.mp hy
        have hjl : j < zs.length := (List.getElem?_eq_some_iff.mp hpy).1
        have hpm := hz.subset (List.mem_of_getElem? hpy)
        refine ⟨_, rfl, ?_⟩
        repeat (first | refine s_seq ?_ | refine s_nil ?_ | refine s_set ?_ | refine s_if ?_ | refine s_ret ?_ | refine s_retV rfl ?_ | refine s_retO rfl ?_ | refine s_expr ?_ | refine s_unp ?_ | refine s_star ?_ | refine s_par ?_ | refine s_put ?_ | refine s_unpAt ?_ | refine p_k ⟨_, rfl, ?_⟩ | refine w_rnil ?_ | refine w_rcons ?_ | refine w_c ?_ | refine w_var rfl ?_ | refine w_varO rfl ?_ | refine w_nil ?_ | refine w_s rfl ?_ | refine w_v ?_ | refine w_prim ?_ | refine w_call ?_ | refine w_callT ?_ | refine w_methV ?_ | refine w_dnil ?_ | refine w_dcons ?_ | refine w_tup ?_ | refine w_lst ?_ | refine w_if ?_ | refine w_and ?_ | refine w_or ?_ | refine w_not ?_ | refine w_chain ?_ | refine w_sl ?_ | refine w_as rfl ?_ | refine w_av ?_ | refine w_bno ?_ | refine w_bat ?_ | refine w_fapp rfl ?_ | refine t_bl ?_ | refine t_val ?_ | refine t_and ?_ | refine t_or ?_ | refine t_not ?_ | refine i_ex ?_ | refine i_fz rfl rfl ?_ | refine i_rng ?_ | refine W.mk ?_ | refine ⟨_, _, rfl, rfl, ?_⟩ | refine ⟨_, rfl, ?_⟩)
        have hmd := hpo p hpm
        have hm2 := hmd.2.1
        have hm3 := hmd.2.2.1
        refine ⟨rfl, _, rfl, (of_spec (k := 0) hB4 (by omega) rfl (by rw [List.length_map]; omega) (by rw [List.length_map]; omega)).mono ?_⟩
        rintro _ _ _ ⟨rfl, hv2, d2, rfl, hB6⟩
        obtain ⟨md, hmdm, rfl⟩ := List.mem_map.mp hv2
        obtain ⟨x6, ex⟩ := hB6.lst
        subst ex
        refine ⟨_, rfl, ?_⟩
        repeat (first | refine s_seq ?_ | refine s_nil ?_ | refine s_set ?_ | refine s_if ?_ | refine s_ret ?_ | refine s_retV rfl ?_ | refine s_retO rfl ?_ | refine s_expr ?_ | refine s_unp ?_ | refine s_star ?_ | refine s_par ?_ | refine s_put ?_ | refine s_unpAt ?_ | refine p_k ⟨_, rfl, ?_⟩ | refine w_rnil ?_ | refine w_rcons ?_ | refine w_c ?_ | refine w_var rfl ?_ | refine w_varO rfl ?_ | refine w_nil ?_ | refine w_s rfl ?_ | refine w_v ?_ | refine w_prim ?_ | refine w_call ?_ | refine w_callT ?_ | refine w_methV ?_ | refine w_dnil ?_ | refine w_dcons ?_ | refine w_tup ?_ | refine w_lst ?_ | refine w_if ?_ | refine w_and ?_ | refine w_or ?_ | refine w_not ?_ | refine w_chain ?_ | refine w_sl ?_ | refine w_as rfl ?_ | refine w_av ?_ | refine w_bno ?_ | refine w_bat ?_ | refine w_fapp rfl ?_ | refine t_bl ?_ | refine t_val ?_ | refine t_and ?_ | refine t_or ?_ | refine t_not ?_ | refine i_ex ?_ | refine i_fz rfl rfl ?_ | refine i_rng ?_ | refine W.mk ?_ | refine ⟨_, _, rfl, rfl, ?_⟩ | refine ⟨_, rfl, ?_⟩)
        refine ⟨by have := sizeLine_eq; show 2 ≤ sizeLine; omega, by rw [List.length_map]; have := sizeLine_eq; omega, as ++ [(p.nm, md)], _, _, by rw [List.map_append]; rfl, by simp [haj], aso_app haso ⟨hmd.1, hmd.2.2.2.1 _ hmdm⟩, rfl, hB6.mono (by omega), .fz⟩
      · rintro acc s ⟨as, xs, a, rfl, haj, haso, rfl, hB4, fa2⟩
        rw [List.length_map] at hB4
        repeat (first | refine s_seq ?_ | refine s_nil ?_ | refine s_set ?_ | refine s_if ?_ | refine s_ret ?_ | refine s_retV rfl ?_ | refine s_retO rfl ?_ | refine s_expr ?_ | refine s_unp ?_ | refine s_star ?_ | refine s_par ?_ | refine s_put ?_ | refine s_unpAt ?_ | refine p_k ⟨_, rfl, ?_⟩ | refine w_rnil ?_ | refine w_rcons ?_ | refine w_c ?_ | refine w_var rfl ?_ | refine w_varO rfl ?_ | refine w_nil ?_ | refine w_s rfl ?_ | refine w_v ?_ | refine w_prim ?_ | refine w_call ?_ | refine w_callT ?_ | refine w_methV ?_ | refine w_dnil ?_ | refine w_dcons ?_ | refine w_tup ?_ | refine w_lst ?_ | refine w_if ?_ | refine w_and ?_ | refine w_or ?_ | refine w_not ?_ | refine w_chain ?_ | refine w_sl ?_ | refine w_as rfl ?_ | refine w_av ?_ | refine w_bno ?_ | refine w_bat ?_ | refine w_fapp rfl ?_ | refine t_bl ?_ | refine t_val ?_ | refine t_and ?_ | refine t_or ?_ | refine t_not ?_ | refine i_ex ?_ | refine i_fz rfl rfl ?_ | refine i_rng ?_ | refine W.mk ?_ | refine ⟨_, _, rfl, rfl, ?_⟩ | refine ⟨_, rfl, ?_⟩)
        have hdl : ds.length ≤ 3 := by
          have := congrArg List.length hp1
          rw [List.length_map, List.length_take] at this
          omega
        refine ⟨by have := sizeLine_eq; show 2 ≤ sizeLine; omega, _, rfl, by rw [List.length_map]; have := sizeLine_eq; omega, ?_⟩
        repeat (first | refine s_seq ?_ | refine s_nil ?_ | refine s_set ?_ | refine s_if ?_ | refine s_ret ?_ | refine s_retV rfl ?_ | refine s_retO rfl ?_ | refine s_expr ?_ | refine s_unp ?_ | refine s_star ?_ | refine s_par ?_ | refine s_put ?_ | refine s_unpAt ?_ | refine p_k ⟨_, rfl, ?_⟩ | refine w_rnil ?_ | refine w_rcons ?_ | refine w_c ?_ | refine w_var rfl ?_ | refine w_varO rfl ?_ | refine w_nil ?_ | refine w_s rfl ?_ | refine w_v ?_ | refine w_prim ?_ | refine w_call ?_ | refine w_callT ?_ | refine w_methV ?_ | refine w_dnil ?_ | refine w_dcons ?_ | refine w_tup ?_ | refine w_lst ?_ | refine w_if ?_ | refine w_and ?_ | refine w_or ?_ | refine w_not ?_ | refine w_chain ?_ | refine w_sl ?_ | refine w_as rfl ?_ | refine w_av ?_ | refine w_bno ?_ | refine w_bat ?_ | refine w_fapp rfl ?_ | refine t_bl ?_ | refine t_val ?_ | refine t_and ?_ | refine t_or ?_ | refine t_not ?_ | refine i_ex ?_ | refine i_fz rfl rfl ?_ | refine i_rng ?_ | refine W.mk ?_ | refine ⟨_, _, rfl, rfl, ?_⟩ | refine ⟨_, rfl, ?_⟩)
        exact ⟨ds ++ [⟨x, as⟩], _, _, _, by rw [List.map_append]; rfl, by rw [List.map_append, hp1, htk]; rfl, ao_app (x := ⟨x, as⟩) hao ⟨hxo, by show as.length ≤ 4; rw [haj, List.length_map]; omega, haso⟩, hB4.mono (by omega), .fz, .inl .fz⟩
    · refine ⟨_, store_anyO rfl fb, ?_⟩
      repeat (first | refine s_seq ?_ | refine s_nil ?_ | refine s_set ?_ | refine s_if ?_ | refine s_ret ?_ | refine s_retV rfl ?_ | refine s_retO rfl ?_ | refine s_expr ?_ | refine s_unp ?_ | refine s_star ?_ | refine s_par ?_ | refine s_put ?_ | refine s_unpAt ?_ | refine p_k ⟨_, rfl, ?_⟩ | refine w_rnil ?_ | refine w_rcons ?_ | refine w_c ?_ | refine w_var rfl ?_ | refine w_varO rfl ?_ | refine w_nil ?_ | refine w_s rfl ?_ | refine w_v ?_ | refine w_prim ?_ | refine w_call ?_ | refine w_callT ?_ | refine w_methV ?_ | refine w_dnil ?_ | refine w_dcons ?_ | refine w_tup ?_ | refine w_lst ?_ | refine w_if ?_ | refine w_and ?_ | refine w_or ?_ | refine w_not ?_ | refine w_chain ?_ | refine w_sl ?_ | refine w_as rfl ?_ | refine w_av ?_ | refine w_bno ?_ | refine w_bat ?_ | refine w_fapp rfl ?_ | refine t_bl ?_ | refine t_val ?_ | refine t_and ?_ | refine t_or ?_ | refine t_not ?_ | refine i_ex ?_ | refine i_fz rfl rfl ?_ | refine i_rng ?_ | refine W.mk ?_ | refine ⟨_, _, rfl, rfl, ?_⟩ | refine ⟨_, rfl, ?_⟩)
      refine ⟨_, _, rfl, hx, ?_⟩
      refine w_dcons ?_
      refine w_prim ?_
      refine w_v ?_
      refine w_lc ?_
      refine i_ow rfl ?_
      refine ⟨rfl, fun j acc s => ∃ (as : List (Str × Str)) (xs : List D) (a : Sl), acc = as.map act ∧ as.length = j ∧ (∀ a ∈ as, okS 8 a.1 ∧ okS 8 a.2) ∧ s = [.ln (.lst xs), .fz (.lst (ns.map .str)), .fz (.tup (ps.map Pt.d)), .fz (.int c), .ow (.lst (ds.map De.d)), .fz (.int i), .lk (.lst (zs.map Pt.d)) false, a] ∧ Bx (n + 8 * i + 4 + j) (.lst xs) ∧ Free a, ⟨[], _, _, rfl, rfl, by simp, rfl, hB2.mono (by omega), .no⟩, ?_, ?_⟩
      · rintro j y acc s hy ⟨as, xs, a, rfl, haj, haso, rfl, hB4, fa2⟩
        rw [List.getElem?_map] at hy
        obtain ⟨p, hpy, rfl⟩ := Option.map_eq_some_iff.mp hy
        have hjl : j < zs.length := (List.getElem?_eq_some_iff.mp hpy).1
        have hpm := hz.subset (List.mem_of_getElem? hpy)
        refine ⟨_, rfl, ?_⟩
        repeat (first | refine s_seq ?_ | refine s_nil ?_ | refine s_set ?_ | refine s_if ?_ | refine s_ret ?_ | refine s_retV rfl ?_ | refine s_retO rfl ?_ | refine s_expr ?_ | refine s_unp ?_ | refine s_star ?_ | refine s_par ?_ | refine s_put ?_ | refine s_unpAt ?_ | refine p_k ⟨_, rfl, ?_⟩ | refine w_rnil ?_ | refine w_rcons ?_ | refine w_c ?_ | refine w_var rfl ?_ | refine w_varO rfl ?_ | refine w_nil ?_ | refine w_s rfl ?_ | refine w_v ?_ | refine w_prim ?_ | refine w_call ?_ | refine w_callT ?_ | refine w_methV ?_ | refine w_dnil ?_ | refine w_dcons ?_ | refine w_tup ?_ | refine w_lst ?_ | refine w_if ?_ | refine w_and ?_ | refine w_or ?_ | refine w_not ?_ | refine w_chain ?_ | refine w_sl ?_ | refine w_as rfl ?_ | refine w_av ?_ | refine w_bno ?_ | refine w_bat ?_ | refine w_fapp rfl ?_ | refine t_bl ?_ | refine t_val ?_ | refine t_and ?_ | refine t_or ?_ | refine t_not ?_ | refine i_ex ?_ | refine i_fz rfl rfl ?_ | refine i_rng ?_ | refine W.mk ?_ | refine ⟨_, _, rfl, rfl, ?_⟩ | refine ⟨_, rfl, ?_⟩)
        have hmd := hpo p hpm
        have hm2 := hmd.2.1
        have hm3 := hmd.2.2.1
        refine ⟨rfl, _, rfl, (of_spec (k := 0) hB4 (by omega) rfl (by rw [List.length_map]; omega) (by rw [List.length_map]; omega)).mono ?_⟩
        rintro _ _ _ ⟨rfl, hv2, d2, rfl, hB6⟩
        obtain ⟨md, hmdm, rfl⟩ := List.mem_map.mp hv2
        obtain ⟨x6, ex⟩ := hB6.lst
        subst ex
        refine ⟨_, rfl, ?_⟩
        repeat (first | refine s_seq ?_ | refine s_nil ?_ | refine s_set ?_ | refine s_if ?_ | refine s_ret ?_ | refine s_retV rfl ?_ | refine s_retO rfl ?_ | refine s_expr ?_ | refine s_unp ?_ | refine s_star ?_ | refine s_par ?_ | refine s_put ?_ | refine s_unpAt ?_ | refine p_k ⟨_, rfl, ?_⟩ | refine w_rnil ?_ | refine w_rcons ?_ | refine w_c ?_ | refine w_var rfl ?_ | refine w_varO rfl ?_ | refine w_nil ?_ | refine w_s rfl ?_ | refine w_v ?_ | refine w_prim ?_ | refine w_call ?_ | refine w_callT ?_ | refine w_methV ?_ | refine w_dnil ?_ | refine w_dcons ?_ | refine w_tup ?_ | refine w_lst ?_ | refine w_if ?_ | refine w_and ?_ | refine w_or ?_ | refine w_not ?_ | refine w_chain ?_ | refine w_sl ?_ | refine w_as rfl ?_ | refine w_av ?_ | refine w_bno ?_ | refine w_bat ?_ | refine w_fapp rfl ?_ | refine t_bl ?_ | refine t_val ?_ | refine t_and ?_ | refine t_or ?_ | refine t_not ?_ | refine i_ex ?_ | refine i_fz rfl rfl ?_ | refine i_rng ?_ | refine W.mk ?_ | refine ⟨_, _, rfl, rfl, ?_⟩ | refine ⟨_, rfl, ?_⟩)
        refine ⟨by have := sizeLine_eq; show 2 ≤ sizeLine; omega, by rw [List.length_map]; have := sizeLine_eq; omega, as ++ [(p.nm, md)], _, _, by rw [List.map_append]; rfl, by simp [haj], aso_app haso ⟨hmd.1, hmd.2.2.2.1 _ hmdm⟩, rfl, hB6.mono (by omega), .fz⟩
      · rintro acc s ⟨as, xs, a, rfl, haj, haso, rfl, hB4, fa2⟩
        rw [List.length_map] at hB4
        repeat (first | refine s_seq ?_ | refine s_nil ?_ | refine s_set ?_ | refine s_if ?_ | refine s_ret ?_ | refine s_retV rfl ?_ | refine s_retO rfl ?_ | refine s_expr ?_ | refine s_unp ?_ | refine s_star ?_ | refine s_par ?_ | refine s_put ?_ | refine s_unpAt ?_ | refine p_k ⟨_, rfl, ?_⟩ | refine w_rnil ?_ | refine w_rcons ?_ | refine w_c ?_ | refine w_var rfl ?_ | refine w_varO rfl ?_ | refine w_nil ?_ | refine w_s rfl ?_ | refine w_v ?_ | refine w_prim ?_ | refine w_call ?_ | refine w_callT ?_ | refine w_methV ?_ | refine w_dnil ?_ | refine w_dcons ?_ | refine w_tup ?_ | refine w_lst ?_ | refine w_if ?_ | refine w_and ?_ | refine w_or ?_ | refine w_not ?_ | refine w_chain ?_ | refine w_sl ?_ | refine w_as rfl ?_ | refine w_av ?_ | refine w_bno ?_ | refine w_bat ?_ | refine w_fapp rfl ?_ | refine t_bl ?_ | refine t_val ?_ | refine t_and ?_ | refine t_or ?_ | refine t_not ?_ | refine i_ex ?_ | refine i_fz rfl rfl ?_ | refine i_rng ?_ | refine W.mk ?_ | refine ⟨_, _, rfl, rfl, ?_⟩ | refine ⟨_, rfl, ?_⟩)
        have hdl : ds.length ≤ 3 := by
          have := congrArg List.length hp1
          rw [List.length_map, List.length_take] at this
          omega
        refine ⟨by have := sizeLine_eq; show 2 ≤ sizeLine; omega, _, rfl, by rw [List.length_map]; have := sizeLine_eq; omega, ?_⟩
        repeat (first | refine s_seq ?_ | refine s_nil ?_ | refine s_set ?_ | refine s_if ?_ | refine s_ret ?_ | refine s_retV rfl ?_ | refine s_retO rfl ?_ | refine s_expr ?_ | refine s_unp ?_ | refine s_star ?_ | refine s_par ?_ | refine s_put ?_ | refine s_unpAt ?_ | refine p_k ⟨_, rfl, ?_⟩ | refine w_rnil ?_ | refine w_rcons ?_ | refine w_c ?_ | refine w_var rfl ?_ | refine w_varO rfl ?_ | refine w_nil ?_ | refine w_s rfl ?_ | refine w_v ?_ | refine w_prim ?_ | refine w_call ?_ | refine w_callT ?_ | refine w_methV ?_ | refine w_dnil ?_ | refine w_dcons ?_ | refine w_tup ?_ | refine w_lst ?_ | refine w_if ?_ | refine w_and ?_ | refine w_or ?_ | refine w_not ?_ | refine w_chain ?_ | refine w_sl ?_ | refine w_as rfl ?_ | refine w_av ?_ | refine w_bno ?_ | refine w_bat ?_ | refine w_fapp rfl ?_ | refine t_bl ?_ | refine t_val ?_ | refine t_and ?_ | refine t_or ?_ | refine t_not ?_ | refine i_ex ?_ | refine i_fz rfl rfl ?_ | refine i_rng ?_ | refine W.mk ?_ | refine ⟨_, _, rfl, rfl, ?_⟩ | refine ⟨_, rfl, ?_⟩)
        exact ⟨ds ++ [⟨x, as⟩], _, _, _, by rw [List.map_append]; rfl, by rw [List.map_append, hp1, htk]; rfl, ao_app (x := ⟨x, as⟩) hao ⟨hxo, by show as.length ≤ 4; rw [haj, List.length_map]; omega, haso⟩, hB4.mono (by omega), .fz, .inr ⟨_, rfl⟩⟩
  · rintro _ ⟨ds, xs, a, b, rfl, hp1, hao, hB1, fa, fb⟩
    rw [rangeD_lenN] at hp1 hB1
    repeat (first | refine s_seq ?_ | refine s_nil ?_ | refine s_set ?_ | refine s_if ?_ | refine s_ret ?_ | refine s_retV rfl ?_ | refine s_retO rfl ?_ | refine s_expr ?_ | refine s_unp ?_ | refine s_star ?_ | refine s_par ?_ | refine s_put ?_ | refine s_unpAt ?_ | refine p_k ⟨_, rfl, ?_⟩ | refine w_rnil ?_ | refine w_rcons ?_ | refine w_c ?_ | refine w_var rfl ?_ | refine w_varO rfl ?_ | refine w_nil ?_ | refine w_s rfl ?_ | refine w_v ?_ | refine w_prim ?_ | refine w_call ?_ | refine w_callT ?_ | refine w_methV ?_ | refine w_dnil ?_ | refine w_dcons ?_ | refine w_tup ?_ | refine w_lst ?_ | refine w_if ?_ | refine w_and ?_ | refine w_or ?_ | refine w_not ?_ | refine w_chain ?_ | refine w_sl ?_ | refine w_as rfl ?_ | refine w_av ?_ | refine w_bno ?_ | refine w_bat ?_ | refine w_fapp rfl ?_ | refine t_bl ?_ | refine t_val ?_ | refine t_and ?_ | refine t_or ?_ | refine t_not ?_ | refine i_ex ?_ | refine i_fz rfl rfl ?_ | refine i_rng ?_ | refine W.mk ?_ | refine ⟨_, _, rfl, rfl, ?_⟩ | refine ⟨_, rfl, ?_⟩)
    have hpl : ds.length = c := by
      have := congrArg List.length hp1
      rw [List.length_map, List.length_take] at this
      omega
    have hnd : (ds.map De.nm).Nodup := by
      rw [hp1]
      exact hd.sublist (List.take_sublist ..)
    obtain ⟨qs, hq, perm⟩ := sorted_deeds (by omega) hnd
    refine ⟨_, _, rfl, hq, ?_⟩
    repeat (first | refine s_seq ?_ | refine s_nil ?_ | refine s_set ?_ | refine s_if ?_ | refine s_ret ?_ | refine s_retV rfl ?_ | refine s_retO rfl ?_ | refine s_expr ?_ | refine s_unp ?_ | refine s_star ?_ | refine s_par ?_ | refine s_put ?_ | refine s_unpAt ?_ | refine p_k ⟨_, rfl, ?_⟩ | refine w_rnil ?_ | refine w_rcons ?_ | refine w_c ?_ | refine w_var rfl ?_ | refine w_varO rfl ?_ | refine w_nil ?_ | refine w_s rfl ?_ | refine w_v ?_ | refine w_prim ?_ | refine w_call ?_ | refine w_callT ?_ | refine w_methV ?_ | refine w_dnil ?_ | refine w_dcons ?_ | refine w_tup ?_ | refine w_lst ?_ | refine w_if ?_ | refine w_and ?_ | refine w_or ?_ | refine w_not ?_ | refine w_chain ?_ | refine w_sl ?_ | refine w_as rfl ?_ | refine w_av ?_ | refine w_bno ?_ | refine w_bat ?_ | refine w_fapp rfl ?_ | refine t_bl ?_ | refine t_val ?_ | refine t_and ?_ | refine t_or ?_ | refine t_not ?_ | refine i_ex ?_ | refine i_fz rfl rfl ?_ | refine i_rng ?_ | refine W.mk ?_ | refine ⟨_, _, rfl, rfl, ?_⟩ | refine ⟨_, rfl, ?_⟩)
    exact ⟨qs.map De.d, _, rfl, rfl, rfl, by rw [List.length_map, perm.length_eq, hpl]; omega, fun y hy => by obtain ⟨z, hz, rfl⟩ := List.mem_map.mp hy; exact z.lay (hao z (perm.mem_iff.mp hz)), hB1.mono (by omega)⟩
end L26
set_option autoImplicit false
set_option Elab.async false
set_option linter.all false
set_option maxRecDepth 100000
set_option pp.maxSteps 500
set_option pp.deepTerms false
namespace L26
open PySem L2 Wt
/-! ### sensors -/
inductive Sk where
  | part (p : Str)
  | sum (bs : List Str) (slip : Int)
structure Se where
  nm : Str
  kind : Sk
def Sk.ds : Sk → List D
  | .part p => [.str "part", .str p]
  | .sum bs i => [.str "sum", .tup (bs.map .str), .int i]
def Se.d (x : Se) : D := .tup (.str x.nm :: x.kind.ds)
def unSe : D → Option Se
  | .tup [.str n, _, .str p] => some ⟨n, .part p⟩
  | .tup [.str n, _, .tup bs, .int i] => some ⟨n, .sum (bs.filterMap unS) i⟩
  | _ => none
theorem unSe_d (x : Se) : unSe x.d = some x := by
  obtain ⟨n, k⟩ := x
  cases k with
  | part p => rfl
  | sum bs i =>
    show some (⟨n, .sum ((bs.map D.str).filterMap unS) i⟩ : Se) = _
    rw [unS_map]
theorem Se.dep (x : Se) : (toP x.d).depth ≤ 60 := by
  obtain ⟨n, k⟩ := x
  cases k with
  | part p =>
    show PyData.depth (.tuple [.str n, .str "part", .str p]) ≤ 60
    simp only [PyData.depth, PyData.depthAll]
    omega
  | sum bs i =>
    have a := depth_strs bs
    show PyData.depth (.tuple [.str n, .str "sum", .tuple (toPs (bs.map D.str)), .int i]) ≤ 60
    simp only [PyData.depth, PyData.depthAll]
    omega
theorem Se.alk (x : Se) : PySem.W.alike (toP x.d) (toP x.d) = true := by
  obtain ⟨n, k⟩ := x
  cases k with
  | part p =>
    show PySem.W.alike (.tuple [.str n, .str "part", .str p]) (.tuple [.str n, .str "part", .str p]) = true
    simp only [PySem.W.alike, PySem.W.alikeAll, Bool.and_true]
  | sum bs i =>
    show PySem.W.alike (.tuple [.str n, .str "sum", .tuple (toPs (bs.map D.str)), .int i]) (.tuple [.str n, .str "sum", .tuple (toPs (bs.map D.str)), .int i]) = true
    simp only [PySem.W.alike, PySem.W.alikeAll, alikeAll_strs, Bool.and_true]
theorem Se.pl (x : Se) : plain x.d = true := by
  obtain ⟨n, k⟩ := x
  cases k with
  | part p => rfl
  | sum bs i =>
    show (plain (D.str n) && (plain (D.str "sum") && (plains (bs.map D.str) && (plain (D.int i) && true)))) = true
    rw [plains_strs]; rfl
theorem sorted_sens {ps : List Se} (hl : ps.length ≤ 1000) (hn : (ps.map Se.nm).Nodup) : ∃ qs : List Se, pSorted [.lst (ps.map Se.d)] = some ⟨.lst (qs.map Se.d), true⟩ ∧ qs.Perm ps :=
  sorted_un unSe_d Se.pl hl Se.dep (by rw [mix_rows (f := Se.d) (fun a => ⟨_, rfl⟩) hn Se.alk, Bool.or_true])
def Se.ok (bs : List Bo) (ps : List Pt) (x : Se) : Prop := okS 8 x.nm ∧ match x.kind with
  | .part p => ∃ q ∈ ps, q.nm = p
  | .sum zs i => zs.Sublist (bs.map Bo.nm) ∧ 0 ≤ i ∧ i ≤ 2
theorem Se.lay (x : Se) {ws : List Bo} {ps : List Pt} (hwl : ws.length ≤ 3) (hwo : ∀ b ∈ ws, b.ok) (hpo : ∀ p ∈ ps, p.ok) (hx : x.ok ws ps) : Lay 2 x.d := by
  obtain ⟨n, k⟩ := x
  obtain ⟨h0, hx⟩ := hx
  refine .tup (by cases k <;> (simp [Sk.ds])) fun y hy => ?_
  cases k with
  | part p =>
    simp only [Sk.ds, List.mem_cons, List.not_mem_nil, or_false] at hy
    obtain ⟨q, hq, rfl⟩ := hx
    rcases hy with rfl | rfl | rfl
    · exact .str h0
    · exact .str ⟨by decide, by decide⟩
    · exact .str (hpo q hq).1
  | sum bs i =>
    simp only [Sk.ds, List.mem_cons, List.not_mem_nil, or_false] at hy
    rcases hy with rfl | rfl | rfl | rfl
    · exact .str h0
    · exact .str ⟨by decide, by decide⟩
    · exact lay_strs bs (by have := hx.1.length_le; rw [List.length_map] at this; omega) fun y hy => by
        obtain ⟨b, hb, rfl⟩ := List.mem_map.mp (hx.1.subset hy)
        exact (hwo b hb).1
    · exact .int hx.2.1 (by have := hx.2.2; omega)
end L26
set_option autoImplicit false
set_option Elab.async false
set_option linter.all false
set_option maxRecDepth 100000
set_option pp.maxSteps 500
set_option pp.deepTerms false
namespace L26
open PySem L2 Wt
/-! ### boxes, sorted -/
def unBo : D → Option Bo
  | .tup [.str n, .int a, .int b, .int c] => some ⟨n, a.toNat, b.toNat, c.toNat⟩
  | _ => none
theorem unBo_d (x : Bo) : unBo x.d = some x := rfl
theorem Bo.dep (x : Bo) : (toP x.d).depth ≤ 60 := by
  show PyData.depth (.tuple [.str x.nm, .int x.cap, .int x.low, .int x.high]) ≤ 60
  simp only [PyData.depth, PyData.depthAll]
  omega
theorem Bo.alk (x : Bo) : PySem.W.alike (toP x.d) (toP x.d) = true := by
  show PySem.W.alike (.tuple [.str x.nm, .int x.cap, .int x.low, .int x.high]) (.tuple [.str x.nm, .int x.cap, .int x.low, .int x.high]) = true
  simp only [PySem.W.alike, PySem.W.alikeAll, Bool.and_true]
theorem Bo.pl (x : Bo) : plain x.d = true := rfl
theorem sorted_boxes {ps : List Bo} (hl : ps.length ≤ 1000) (hn : (ps.map Bo.nm).Nodup) : ∃ qs : List Bo, pSorted [.lst (ps.map Bo.d)] = some ⟨.lst (qs.map Bo.d), true⟩ ∧ qs.Perm ps :=
  sorted_un unBo_d Bo.pl hl Bo.dep (by rw [mix_rows (f := Bo.d) (fun a => ⟨_, rfl⟩) hn Bo.alk, Bool.or_true])
theorem Bo.lay (x : Bo) (h : x.ok) : Lay 1 x.d := by
  obtain ⟨h1, h2, h3, h4, h5⟩ := h
  refine .tup (by show 4 ≤ 6; omega) fun y hy => ?_
  simp only [List.mem_cons, List.not_mem_nil, or_false] at hy
  rcases hy with rfl | rfl | rfl | rfl
  · exact .str h1
  · exact .int (by omega) (by omega)
  · exact .int (by omega) (by omega)
  · exact .int (by omega) (by omega)
theorem Pt.lay (x : Pt) (h : x.ok) : Lay 2 x.d := by
  obtain ⟨h0, _, h1, h3, h2, h4, _⟩ := h
  refine .tup (by show 3 ≤ 6; omega) fun y hy => ?_
  simp only [List.mem_cons, List.not_mem_nil, or_false] at hy
  rcases hy with rfl | rfl | rfl
  · exact .str h0
  · exact lay_strs _ (by omega) h3
  · exact lay_strs _ (by omega) h4
end L26
set_option autoImplicit false
set_option Elab.async false
set_option linter.all false
set_option maxRecDepth 100000
set_option pp.maxSteps 500
set_option pp.deepTerms false
namespace L26
open PySem L2 Wt
theorem so_app {bs : List Bo} {ps : List Pt} {ds : List Se} {x : Se} (h : ∀ y ∈ ds, y.ok bs ps) (hx : x.ok bs ps) : ∀ y ∈ ds ++ [x], y.ok bs ps := fun y hy => by
  rcases List.mem_append.mp hy with h2 | h2
  · exact h y h2
  · rw [List.mem_singleton.mp h2]; exact hx
set_option maxHeartbeats 4000000 in
theorem sens_spec {n : Nat} {d : D} {ns : List Str} {bs : List Bo} {ps : List Pt} {c : Nat} (hB : Bx n d) (hn : n < 100000000) (hl : ns.length = 4) (hd : ns.Nodup) (ho : ∀ s ∈ ns, okS 8 s) (hb : bs ≠ []) (hbl : bs.length ≤ 3) (hp : ps ≠ []) (hpl : ps.length ≤ 4) (hc : c ≤ 4) :
    Wo (G_l_sensors_by [d, .lst (ns.map .str), .tup (bs.map Bo.d), .tup (ps.map Pt.d), .int c]) fun v fr refs => ∃ (ds : List Se) (d' : D), v = .tup (ds.map Se.d) ∧ fr = false ∧ refs = [d'] ∧ ds.length ≤ 4 ∧ (∀ x ∈ ds, x.ok bs ps) ∧ (ds.map Se.nm).Nodup ∧ Bx (n + 32) d' := by
  obtain ⟨xs, ex⟩ := hB.lst
  subst ex
  refine w_def (σ := [.ln (.lst xs), .fz (.lst (ns.map .str)), .fz (.tup (bs.map Bo.d)), .fz (.tup (ps.map Pt.d)), .fz (.int c), .no, .no, .no, .no]) rfl ?_
  unfold F_l_sensors_by
  refine s_seq ?_
  refine s_set ?_
  refine w_lst ?_
  refine w_dnil ?_
  refine ⟨Nat.zero_le _, _, rfl, ?_⟩
  refine s_seq ?_
  have hsm : small (c : Int) = true := small_of (by omega) (by omega)
  have hp1 : 0 < ps.length := List.length_pos_iff.mpr hp
  refine s_for ?_
  refine i_rng ?_
  refine w_var rfl ?_
  refine ⟨_, rfl, hsm, fun i s => ∃ (ds : List Se) (xs : List D) (a b : Sl), s = [.ln (.lst xs), .fz (.lst (ns.map .str)), .fz (.tup (bs.map Bo.d)), .fz (.tup (ps.map Pt.d)), .fz (.int c), .ow (.lst (ds.map Se.d)), a, b, .no] ∧ ds.map Se.nm = ns.take i ∧ (∀ x ∈ ds, x.ok bs ps) ∧ Bx (n + 8 * i) (.lst xs) ∧ Free a ∧ Free b, ⟨[], xs, .no, .no, rfl, by simp, by simp, hB, .no, .no⟩, ?_, ?_⟩
  · rintro i d _ hd2 ⟨ds, xs, a, b, rfl, hp2, hso, hB1, fa, fb⟩
    obtain ⟨hi, rfl⟩ := rangeD_get hd2
    have hic : i < c := hi
    have hdl : ds.length ≤ 4 := by
      have := congrArg List.length hp2
      rw [List.length_map, List.length_take] at this
      omega
    have hnm : ∃ x : Str, pIx [.lst (ns.map .str), .int i] = some ⟨.str x, false⟩ ∧ okS 8 x ∧ ns.take (i + 1) = ns.take i ++ [x] := by
      have hlt : i < ns.length := by omega
      refine ⟨ns[i], pIx_ok rfl (atI_nat (by rw [List.getElem?_map, List.getElem?_eq_getElem hlt]; rfl)), ho _ (List.getElem_mem ..), ?_⟩
      rw [List.take_add_one, List.getElem?_eq_getElem hlt]; rfl
    obtain ⟨x, hx, hxo, htk⟩ := hnm
    refine ⟨_, put_free rfl fa, ?_⟩
    repeat (first | refine s_seq ?_ | refine s_nil ?_ | refine s_set ?_ | refine s_if ?_ | refine s_ret ?_ | refine s_retV rfl ?_ | refine s_retO rfl ?_ | refine s_expr ?_ | refine s_unp ?_ | refine s_star ?_ | refine s_par ?_ | refine s_put ?_ | refine s_unpAt ?_ | refine p_k ⟨_, rfl, ?_⟩ | refine w_rnil ?_ | refine w_rcons ?_ | refine w_c ?_ | refine w_var rfl ?_ | refine w_varO rfl ?_ | refine w_nil ?_ | refine w_s rfl ?_ | refine w_v ?_ | refine w_prim ?_ | refine w_call ?_ | refine w_callT ?_ | refine w_methV ?_ | refine w_dnil ?_ | refine w_dcons ?_ | refine w_tup ?_ | refine w_lst ?_ | refine w_if ?_ | refine w_and ?_ | refine w_or ?_ | refine w_not ?_ | refine w_chain ?_ | refine w_sl ?_ | refine w_as rfl ?_ | refine w_av ?_ | refine w_bno ?_ | refine w_bat ?_ | refine w_fapp rfl ?_ | refine t_bl ?_ | refine t_val ?_ | refine t_and ?_ | refine t_or ?_ | refine t_not ?_ | refine i_ex ?_ | refine i_fz rfl rfl ?_ | refine i_rng ?_ | refine W.mk ?_ | refine ⟨_, _, rfl, rfl, ?_⟩ | refine ⟨_, rfl, ?_⟩)
    refine ⟨rfl, _, rfl, (take_spec (k := 2) hB1 (by omega) (by omega) (by omega)).mono ?_⟩
    rintro _ _ _ ⟨q, _, rfl, rfl, rfl, hB2, q0, q1⟩
    obtain ⟨xhB2, ex⟩ := hB2.lst
    subst ex
    refine ⟨_, rfl, ?_⟩
    repeat (first | refine s_seq ?_ | refine s_nil ?_ | refine s_set ?_ | refine s_if ?_ | refine s_ret ?_ | refine s_retV rfl ?_ | refine s_retO rfl ?_ | refine s_expr ?_ | refine s_unp ?_ | refine s_star ?_ | refine s_par ?_ | refine s_put ?_ | refine s_unpAt ?_ | refine p_k ⟨_, rfl, ?_⟩ | refine w_rnil ?_ | refine w_rcons ?_ | refine w_c ?_ | refine w_var rfl ?_ | refine w_varO rfl ?_ | refine w_nil ?_ | refine w_s rfl ?_ | refine w_v ?_ | refine w_prim ?_ | refine w_call ?_ | refine w_callT ?_ | refine w_methV ?_ | refine w_dnil ?_ | refine w_dcons ?_ | refine w_tup ?_ | refine w_lst ?_ | refine w_if ?_ | refine w_and ?_ | refine w_or ?_ | refine w_not ?_ | refine w_chain ?_ | refine w_sl ?_ | refine w_as rfl ?_ | refine w_av ?_ | refine w_bno ?_ | refine w_bat ?_ | refine w_fapp rfl ?_ | refine t_bl ?_ | refine t_val ?_ | refine t_and ?_ | refine t_or ?_ | refine t_not ?_ | refine i_ex ?_ | refine i_fz rfl rfl ?_ | refine i_rng ?_ | refine W.mk ?_ | refine ⟨_, _, rfl, rfl, ?_⟩ | refine ⟨_, rfl, ?_⟩)
    by_cases h : q = 0
    · refine ifT (by rw [eqi]; exact h) ?_
      refine s_seq ?_
      refine s_expr ?_
      refine w_fapp rfl ?_
      refine w_tup ?_
      refine w_dcons ?_
      refine w_prim ?_
      refine w_s rfl ?_
      refine w_s rfl ?_
      refine w_nil ?_
      refine ⟨_, _, rfl, hx, ?_⟩
      repeat (first | refine s_seq ?_ | refine s_nil ?_ | refine s_set ?_ | refine s_if ?_ | refine s_ret ?_ | refine s_retV rfl ?_ | refine s_retO rfl ?_ | refine s_expr ?_ | refine s_unp ?_ | refine s_star ?_ | refine s_par ?_ | refine s_put ?_ | refine s_unpAt ?_ | refine p_k ⟨_, rfl, ?_⟩ | refine w_rnil ?_ | refine w_rcons ?_ | refine w_c ?_ | refine w_var rfl ?_ | refine w_varO rfl ?_ | refine w_nil ?_ | refine w_s rfl ?_ | refine w_v ?_ | refine w_prim ?_ | refine w_call ?_ | refine w_callT ?_ | refine w_methV ?_ | refine w_dnil ?_ | refine w_dcons ?_ | refine w_tup ?_ | refine w_lst ?_ | refine w_if ?_ | refine w_and ?_ | refine w_or ?_ | refine w_not ?_ | refine w_chain ?_ | refine w_sl ?_ | refine w_as rfl ?_ | refine w_av ?_ | refine w_bno ?_ | refine w_bat ?_ | refine w_fapp rfl ?_ | refine t_bl ?_ | refine t_val ?_ | refine t_and ?_ | refine t_or ?_ | refine t_not ?_ | refine i_ex ?_ | refine i_fz rfl rfl ?_ | refine i_rng ?_ | refine W.mk ?_ | refine ⟨_, _, rfl, rfl, ?_⟩ | refine ⟨_, rfl, ?_⟩)
      refine ⟨rfl, _, rfl, (of_spec (k := 0) hB2 (by omega) rfl (by rw [List.length_map]; omega) (by rw [List.length_map]; omega)).mono ?_⟩
      rintro _ _ _ ⟨rfl, hv2, d2, rfl, hB6⟩
      obtain ⟨p, hpm, rfl⟩ := List.mem_map.mp hv2
      obtain ⟨x6, ex⟩ := hB6.lst
      subst ex
      refine ⟨_, rfl, ?_⟩
      repeat (first | refine s_seq ?_ | refine s_nil ?_ | refine s_set ?_ | refine s_if ?_ | refine s_ret ?_ | refine s_retV rfl ?_ | refine s_retO rfl ?_ | refine s_expr ?_ | refine s_unp ?_ | refine s_star ?_ | refine s_par ?_ | refine s_put ?_ | refine s_unpAt ?_ | refine p_k ⟨_, rfl, ?_⟩ | refine w_rnil ?_ | refine w_rcons ?_ | refine w_c ?_ | refine w_var rfl ?_ | refine w_varO rfl ?_ | refine w_nil ?_ | refine w_s rfl ?_ | refine w_v ?_ | refine w_prim ?_ | refine w_call ?_ | refine w_callT ?_ | refine w_methV ?_ | refine w_dnil ?_ | refine w_dcons ?_ | refine w_tup ?_ | refine w_lst ?_ | refine w_if ?_ | refine w_and ?_ | refine w_or ?_ | refine w_not ?_ | refine w_chain ?_ | refine w_sl ?_ | refine w_as rfl ?_ | refine w_av ?_ | refine w_bno ?_ | refine w_bat ?_ | refine w_fapp rfl ?_ | refine t_bl ?_ | refine t_val ?_ | refine t_and ?_ | refine t_or ?_ | refine t_not ?_ | refine i_ex ?_ | refine i_fz rfl rfl ?_ | refine i_rng ?_ | refine W.mk ?_ | refine ⟨_, _, rfl, rfl, ?_⟩ | refine ⟨_, rfl, ?_⟩)
      refine ⟨by have := sizeLine_eq; show 3 ≤ sizeLine; omega, _, rfl, by rw [List.length_map]; have := sizeLine_eq; omega, ?_⟩
      repeat (first | refine s_seq ?_ | refine s_nil ?_ | refine s_set ?_ | refine s_if ?_ | refine s_ret ?_ | refine s_retV rfl ?_ | refine s_retO rfl ?_ | refine s_expr ?_ | refine s_unp ?_ | refine s_star ?_ | refine s_par ?_ | refine s_put ?_ | refine s_unpAt ?_ | refine p_k ⟨_, rfl, ?_⟩ | refine w_rnil ?_ | refine w_rcons ?_ | refine w_c ?_ | refine w_var rfl ?_ | refine w_varO rfl ?_ | refine w_nil ?_ | refine w_s rfl ?_ | refine w_v ?_ | refine w_prim ?_ | refine w_call ?_ | refine w_callT ?_ | refine w_methV ?_ | refine w_dnil ?_ | refine w_dcons ?_ | refine w_tup ?_ | refine w_lst ?_ | refine w_if ?_ | refine w_and ?_ | refine w_or ?_ | refine w_not ?_ | refine w_chain ?_ | refine w_sl ?_ | refine w_as rfl ?_ | refine w_av ?_ | refine w_bno ?_ | refine w_bat ?_ | refine w_fapp rfl ?_ | refine t_bl ?_ | refine t_val ?_ | refine t_and ?_ | refine t_or ?_ | refine t_not ?_ | refine i_ex ?_ | refine i_fz rfl rfl ?_ | refine i_rng ?_ | refine W.mk ?_ | refine ⟨_, _, rfl, rfl, ?_⟩ | refine ⟨_, rfl, ?_⟩)
      exact ⟨ds ++ [⟨x, .part p.nm⟩], _, _, _, by rw [List.map_append]; rfl, by rw [List.map_append, hp2, htk]; rfl, so_app (x := ⟨x, .part p.nm⟩) hso ⟨hxo, p, hpm, rfl⟩, hB6.mono (by omega), .fz, fb⟩
    · refine ifF (by rw [eqi]; exact h) ?_
      refine s_seq ?_
      refine s_set ?_
      refine w_prim ?_
      refine w_v ?_
      refine w_call ?_
      refine w_s rfl ?_
      refine w_v ?_
      refine w_lc ?_
      refine i_fz rfl rfl ?_
      refine ⟨rfl, fun j acc s => acc = (bs.take j).map (fun b => D.str b.nm) ∧ ∃ e, s = [.ln (.lst xhB2), .fz (.lst (ns.map .str)), .fz (.tup (bs.map Bo.d)), .fz (.tup (ps.map Pt.d)), .fz (.int c), .ow (.lst (ds.map Se.d)), .fz (.int i), b, e] ∧ Free e, ⟨by simp, .no, rfl, .no⟩, ?_, ?_⟩
      · rintro j y acc s hy ⟨rfl, e, rfl, fe⟩
        rw [List.getElem?_map] at hy
        obtain ⟨b2, hb2, rfl⟩ := Option.map_eq_some_iff.mp hy
        refine ⟨_, rfl, ?_⟩
        repeat (first | refine s_seq ?_ | refine s_nil ?_ | refine s_set ?_ | refine s_if ?_ | refine s_ret ?_ | refine s_retV rfl ?_ | refine s_retO rfl ?_ | refine s_expr ?_ | refine s_unp ?_ | refine s_star ?_ | refine s_par ?_ | refine s_put ?_ | refine s_unpAt ?_ | refine p_k ⟨_, rfl, ?_⟩ | refine w_rnil ?_ | refine w_rcons ?_ | refine w_c ?_ | refine w_var rfl ?_ | refine w_varO rfl ?_ | refine w_nil ?_ | refine w_s rfl ?_ | refine w_v ?_ | refine w_prim ?_ | refine w_call ?_ | refine w_callT ?_ | refine w_methV ?_ | refine w_dnil ?_ | refine w_dcons ?_ | refine w_tup ?_ | refine w_lst ?_ | refine w_if ?_ | refine w_and ?_ | refine w_or ?_ | refine w_not ?_ | refine w_chain ?_ | refine w_sl ?_ | refine w_as rfl ?_ | refine w_av ?_ | refine w_bno ?_ | refine w_bat ?_ | refine w_fapp rfl ?_ | refine t_bl ?_ | refine t_val ?_ | refine t_and ?_ | refine t_or ?_ | refine t_not ?_ | refine i_ex ?_ | refine i_fz rfl rfl ?_ | refine i_rng ?_ | refine W.mk ?_ | refine ⟨_, _, rfl, rfl, ?_⟩ | refine ⟨_, rfl, ?_⟩)
        have htk2 : (bs.take (j + 1)).map (fun b => D.str b.nm) = (bs.take j).map (fun b => D.str b.nm) ++ [.str b2.nm] := by
          rw [List.take_add_one, hb2, List.map_append]; rfl
        exact ⟨by rw [List.length_map, List.length_take]; have := sizeLine_eq; omega, htk2.symm, _, rfl, .fz⟩
      rintro acc s ⟨rfl, e, rfl, fe⟩
      have e1 : bs.take (bs.map Bo.d).length = bs := by rw [List.length_map, List.take_length]
      have e2 : bs.map (fun b => D.str b.nm) = (bs.map Bo.nm).map .str := by rw [List.map_map]; rfl
      rw [e1, e2]
      repeat (first | refine s_seq ?_ | refine s_nil ?_ | refine s_set ?_ | refine s_if ?_ | refine s_ret ?_ | refine s_retV rfl ?_ | refine s_retO rfl ?_ | refine s_expr ?_ | refine s_unp ?_ | refine s_star ?_ | refine s_par ?_ | refine s_put ?_ | refine s_unpAt ?_ | refine p_k ⟨_, rfl, ?_⟩ | refine w_rnil ?_ | refine w_rcons ?_ | refine w_c ?_ | refine w_var rfl ?_ | refine w_varO rfl ?_ | refine w_nil ?_ | refine w_s rfl ?_ | refine w_v ?_ | refine w_prim ?_ | refine w_call ?_ | refine w_callT ?_ | refine w_methV ?_ | refine w_dnil ?_ | refine w_dcons ?_ | refine w_tup ?_ | refine w_lst ?_ | refine w_if ?_ | refine w_and ?_ | refine w_or ?_ | refine w_not ?_ | refine w_chain ?_ | refine w_sl ?_ | refine w_as rfl ?_ | refine w_av ?_ | refine w_bno ?_ | refine w_bat ?_ | refine w_fapp rfl ?_ | refine t_bl ?_ | refine t_val ?_ | refine t_and ?_ | refine t_or ?_ | refine t_not ?_ | refine i_ex ?_ | refine i_fz rfl rfl ?_ | refine i_rng ?_ | refine W.mk ?_ | refine ⟨_, _, rfl, rfl, ?_⟩ | refine ⟨_, rfl, ?_⟩)
      refine ⟨rfl, _, rfl, (some_spec hB2 (by rw [List.length_map, List.length_map]; omega) (by rw [List.length_map, List.length_map]; omega) (by omega)).mono ?_⟩
      rintro _ fr _ ⟨es, d', rfl, hsub, _, rfl, hB3⟩
      rw [List.length_map, List.length_map] at hB3
      obtain ⟨zs, rfl, hz⟩ := sub_strs hsub
      obtain ⟨x3, ex⟩ := hB3.lst
      subst ex
      refine ⟨_, rfl, ?_⟩
      refine w_nil ?_
      refine ⟨_, _, rfl, rfl, ?_⟩
      refine ⟨_, store_free rfl fb, ?_⟩
      refine s_seq ?_
      refine s_expr ?_
      refine w_fapp rfl ?_
      refine w_tup ?_
      refine w_dcons ?_
      refine w_prim ?_
      refine w_s rfl ?_
      refine w_s rfl ?_
      refine w_nil ?_
      refine ⟨_, _, rfl, hx, ?_⟩
      repeat (first | refine s_seq ?_ | refine s_nil ?_ | refine s_set ?_ | refine s_if ?_ | refine s_ret ?_ | refine s_retV rfl ?_ | refine s_retO rfl ?_ | refine s_expr ?_ | refine s_unp ?_ | refine s_star ?_ | refine s_par ?_ | refine s_put ?_ | refine s_unpAt ?_ | refine p_k ⟨_, rfl, ?_⟩ | refine w_rnil ?_ | refine w_rcons ?_ | refine w_c ?_ | refine w_var rfl ?_ | refine w_varO rfl ?_ | refine w_nil ?_ | refine w_s rfl ?_ | refine w_v ?_ | refine w_prim ?_ | refine w_call ?_ | refine w_callT ?_ | refine w_methV ?_ | refine w_dnil ?_ | refine w_dcons ?_ | refine w_tup ?_ | refine w_lst ?_ | refine w_if ?_ | refine w_and ?_ | refine w_or ?_ | refine w_not ?_ | refine w_chain ?_ | refine w_sl ?_ | refine w_as rfl ?_ | refine w_av ?_ | refine w_bno ?_ | refine w_bat ?_ | refine w_fapp rfl ?_ | refine t_bl ?_ | refine t_val ?_ | refine t_and ?_ | refine t_or ?_ | refine t_not ?_ | refine i_ex ?_ | refine i_fz rfl rfl ?_ | refine i_rng ?_ | refine W.mk ?_ | refine ⟨_, _, rfl, rfl, ?_⟩ | refine ⟨_, rfl, ?_⟩)
      refine ⟨rfl, _, rfl, (take_spec (k := 2) hB3 (by omega) (by omega) (by omega)).mono ?_⟩
      rintro _ _ _ ⟨q4, _, rfl, rfl, rfl, hB7, q40, q41⟩
      obtain ⟨xhB7, ex⟩ := hB7.lst
      subst ex
      refine ⟨_, rfl, ?_⟩
      repeat (first | refine s_seq ?_ | refine s_nil ?_ | refine s_set ?_ | refine s_if ?_ | refine s_ret ?_ | refine s_retV rfl ?_ | refine s_retO rfl ?_ | refine s_expr ?_ | refine s_unp ?_ | refine s_star ?_ | refine s_par ?_ | refine s_put ?_ | refine s_unpAt ?_ | refine p_k ⟨_, rfl, ?_⟩ | refine w_rnil ?_ | refine w_rcons ?_ | refine w_c ?_ | refine w_var rfl ?_ | refine w_varO rfl ?_ | refine w_nil ?_ | refine w_s rfl ?_ | refine w_v ?_ | refine w_prim ?_ | refine w_call ?_ | refine w_callT ?_ | refine w_methV ?_ | refine w_dnil ?_ | refine w_dcons ?_ | refine w_tup ?_ | refine w_lst ?_ | refine w_if ?_ | refine w_and ?_ | refine w_or ?_ | refine w_not ?_ | refine w_chain ?_ | refine w_sl ?_ | refine w_as rfl ?_ | refine w_av ?_ | refine w_bno ?_ | refine w_bat ?_ | refine w_fapp rfl ?_ | refine t_bl ?_ | refine t_val ?_ | refine t_and ?_ | refine t_or ?_ | refine t_not ?_ | refine i_ex ?_ | refine i_fz rfl rfl ?_ | refine i_rng ?_ | refine W.mk ?_ | refine ⟨_, _, rfl, rfl, ?_⟩ | refine ⟨_, rfl, ?_⟩)
      refine ⟨by have := sizeLine_eq; show 4 ≤ sizeLine; omega, _, rfl, by rw [List.length_map]; have := sizeLine_eq; omega, ?_⟩
      repeat (first | refine s_seq ?_ | refine s_nil ?_ | refine s_set ?_ | refine s_if ?_ | refine s_ret ?_ | refine s_retV rfl ?_ | refine s_retO rfl ?_ | refine s_expr ?_ | refine s_unp ?_ | refine s_star ?_ | refine s_par ?_ | refine s_put ?_ | refine s_unpAt ?_ | refine p_k ⟨_, rfl, ?_⟩ | refine w_rnil ?_ | refine w_rcons ?_ | refine w_c ?_ | refine w_var rfl ?_ | refine w_varO rfl ?_ | refine w_nil ?_ | refine w_s rfl ?_ | refine w_v ?_ | refine w_prim ?_ | refine w_call ?_ | refine w_callT ?_ | refine w_methV ?_ | refine w_dnil ?_ | refine w_dcons ?_ | refine w_tup ?_ | refine w_lst ?_ | refine w_if ?_ | refine w_and ?_ | refine w_or ?_ | refine w_not ?_ | refine w_chain ?_ | refine w_sl ?_ | refine w_as rfl ?_ | refine w_av ?_ | refine w_bno ?_ | refine w_bat ?_ | refine w_fapp rfl ?_ | refine t_bl ?_ | refine t_val ?_ | refine t_and ?_ | refine t_or ?_ | refine t_not ?_ | refine i_ex ?_ | refine i_fz rfl rfl ?_ | refine i_rng ?_ | refine W.mk ?_ | refine ⟨_, _, rfl, rfl, ?_⟩ | refine ⟨_, rfl, ?_⟩)
      exact ⟨ds ++ [⟨x, .sum zs q4⟩], _, _, _, by rw [List.map_append]; rfl, by rw [List.map_append, hp2, htk]; rfl, so_app (x := ⟨x, .sum zs q4⟩) hso ⟨hxo, hz, by omega, by omega⟩, hB7.mono (by omega), .fz, .fz⟩
  · rintro _ ⟨ds, xs, a, b, rfl, hp2, hso, hB1, fa, fb⟩
    rw [rangeD_lenN] at hp2 hB1
    repeat (first | refine s_seq ?_ | refine s_nil ?_ | refine s_set ?_ | refine s_if ?_ | refine s_ret ?_ | refine s_retV rfl ?_ | refine s_retO rfl ?_ | refine s_expr ?_ | refine s_unp ?_ | refine s_star ?_ | refine s_par ?_ | refine s_put ?_ | refine s_unpAt ?_ | refine p_k ⟨_, rfl, ?_⟩ | refine w_rnil ?_ | refine w_rcons ?_ | refine w_c ?_ | refine w_var rfl ?_ | refine w_varO rfl ?_ | refine w_nil ?_ | refine w_s rfl ?_ | refine w_v ?_ | refine w_prim ?_ | refine w_call ?_ | refine w_callT ?_ | refine w_methV ?_ | refine w_dnil ?_ | refine w_dcons ?_ | refine w_tup ?_ | refine w_lst ?_ | refine w_if ?_ | refine w_and ?_ | refine w_or ?_ | refine w_not ?_ | refine w_chain ?_ | refine w_sl ?_ | refine w_as rfl ?_ | refine w_av ?_ | refine w_bno ?_ | refine w_bat ?_ | refine w_fapp rfl ?_ | refine t_bl ?_ | refine t_val ?_ | refine t_and ?_ | refine t_or ?_ | refine t_not ?_ | refine i_ex ?_ | refine i_fz rfl rfl ?_ | refine i_rng ?_ | refine W.mk ?_ | refine ⟨_, _, rfl, rfl, ?_⟩ | refine ⟨_, rfl, ?_⟩)
    have hpl : ds.length = c := by
      have := congrArg List.length hp2
      rw [List.length_map, List.length_take] at this
      omega
    have hnd : (ds.map Se.nm).Nodup := by
      rw [hp2]
      exact hd.sublist (List.take_sublist ..)
    obtain ⟨qs, hq, perm⟩ := sorted_sens (by omega) hnd
    refine ⟨_, _, rfl, hq, ?_⟩
    repeat (first | refine s_seq ?_ | refine s_nil ?_ | refine s_set ?_ | refine s_if ?_ | refine s_ret ?_ | refine s_retV rfl ?_ | refine s_retO rfl ?_ | refine s_expr ?_ | refine s_unp ?_ | refine s_star ?_ | refine s_par ?_ | refine s_put ?_ | refine s_unpAt ?_ | refine p_k ⟨_, rfl, ?_⟩ | refine w_rnil ?_ | refine w_rcons ?_ | refine w_c ?_ | refine w_var rfl ?_ | refine w_varO rfl ?_ | refine w_nil ?_ | refine w_s rfl ?_ | refine w_v ?_ | refine w_prim ?_ | refine w_call ?_ | refine w_callT ?_ | refine w_methV ?_ | refine w_dnil ?_ | refine w_dcons ?_ | refine w_tup ?_ | refine w_lst ?_ | refine w_if ?_ | refine w_and ?_ | refine w_or ?_ | refine w_not ?_ | refine w_chain ?_ | refine w_sl ?_ | refine w_as rfl ?_ | refine w_av ?_ | refine w_bno ?_ | refine w_bat ?_ | refine w_fapp rfl ?_ | refine t_bl ?_ | refine t_val ?_ | refine t_and ?_ | refine t_or ?_ | refine t_not ?_ | refine i_ex ?_ | refine i_fz rfl rfl ?_ | refine i_rng ?_ | refine W.mk ?_ | refine ⟨_, _, rfl, rfl, ?_⟩ | refine ⟨_, rfl, ?_⟩)
    exact ⟨qs, _, rfl, rfl, rfl, by rw [perm.length_eq, hpl]; omega, fun y hy => hso y (perm.mem_iff.mp hy), (perm.map Se.nm).nodup_iff.mpr hnd, hB1.mono (by omega)⟩
end L26
set_option autoImplicit false
set_option Elab.async false
set_option linter.all false
set_option maxRecDepth 100000
set_option pp.maxSteps 500
set_option pp.deepTerms false
namespace L26
open PySem L2 Wt
theorem cut_str {ns : List Str} {a b : Nat} (h : a + b ≤ ns.length) : cutD (ns.map .str) (some (a : Int)) (some ((a : Int) + (b : Int))) = ((ns.drop a).take b).map .str := by
  have e : (a : Int) + (b : Int) = ((a + b : Nat) : Int) := by omega
  rw [e, cut_nat (by rw [List.length_map]; omega) (by omega), List.map_take, List.map_drop, show a + b - a = b by omega]
theorem cut_from {ns : List Str} {a : Nat} (h : a ≤ ns.length) : cutD (ns.map .str) (some (a : Int)) none = (ns.drop a).map .str := by
  unfold cutD
  rw [HT.sIx_nat, HT.sIx_none, Nat.min_eq_left (by rw [List.length_map]; omega), List.map_drop]
  exact List.take_of_length_le (by rw [List.length_drop]; omega)
theorem cut_to {ns : List Str} {b : Nat} (h : b ≤ ns.length) : cutD (ns.map .str) none (some (b : Int)) = (ns.take b).map .str := by
  unfold cutD
  rw [HT.sIx_nat, HT.sIx_none, Nat.min_eq_left (by rw [List.length_map]; omega), List.map_take, List.drop_zero, Nat.sub_zero]
def workD (x0 : D) (bs : List Bo) (ps : List Pt) (r : List D) : D := .tup (x0 :: .tup (bs.map Bo.d) :: .tup (ps.map Pt.d) :: r)
theorem workD_lay {nm : Str} {bs : List Bo} {ps : List Pt} {d1 d2 : List D} {ses : List Se} (hno : okS 8 nm) (hb : bs.length ≤ 3) (hbo : ∀ b ∈ bs, b.ok) (hp : ps.length ≤ 4) (hpo : ∀ p ∈ ps, p.ok) (l1 : d1.length ≤ 5) (h1 : ∀ x ∈ d1, Lay 1 x) (l2 : d2.length ≤ 4) (h2 : ∀ x ∈ d2, Lay 3 x) (l3 : ses.length ≤ 4) (h3 : ∀ x ∈ ses, x.ok bs ps) :
    Lay 5 (workD (.str nm) bs ps [.tup d1, .tup d2, .tup (ses.map Se.d)]) := by
  refine .tup (by show 6 ≤ 6; omega) fun y hy => ?_
  simp only [List.mem_cons, List.not_mem_nil, or_false] at hy
  rcases hy with rfl | rfl | rfl | rfl | rfl | rfl
  · exact .str hno
  · refine .tup (by rw [List.length_map]; omega) fun z hz => ?_
    obtain ⟨b, hb, rfl⟩ := List.mem_map.mp hz
    exact (b.lay (hbo b hb)).mono (by omega)
  · refine .tup (by rw [List.length_map]; omega) fun z hz => ?_
    obtain ⟨b, hb, rfl⟩ := List.mem_map.mp hz
    exact (b.lay (hpo b hb)).mono (by omega)
  · exact .tup (by omega) fun z hz => (h1 z hz).mono (by omega)
  · exact .tup (by omega) h2
  · refine .tup (by rw [List.length_map]; omega) fun z hz => ?_
    obtain ⟨b, hb2, rfl⟩ := List.mem_map.mp hz
    exact (b.lay hb hbo hpo (h3 b hb2)).mono (by omega)
set_option maxHeartbeats 4000000 in
theorem works_spec {n : Nat} {d : D} {nm : Str} {mb mp tp : Nat} (hmb1 : 1 ≤ mb) (hmb : mb ≤ 3) (hmp1 : 1 ≤ mp) (hmp : mp ≤ 4) (htp1 : 1 ≤ tp) (htp : tp ≤ 9) (hnmo : okS 8 nm) (hB : Bx n d) (hn : n < 10000000) :
    Wo (G_l_works [d, .str nm, .int mb, .int mp, .int tp]) fun v fr refs => ∃ (bs : List Bo) (ps : List Pt) (d1 d2 : List D) (ses : List Se) (d' : D), v = workD (.str nm) bs ps [.tup d1, .tup d2, .tup (ses.map Se.d)] ∧ fr = false ∧ refs = [d'] ∧ bs ≠ [] ∧ bs.length ≤ 3 ∧ (bs.map Bo.nm).Nodup ∧ (∀ b ∈ bs, b.ok) ∧ ps ≠ [] ∧ ps.length ≤ 4 ∧ (ps.map Pt.nm).Nodup ∧ (∀ p ∈ ps, p.ok) ∧ ses.length ≤ 4 ∧ (ses.map Se.nm).Nodup ∧ (∀ x ∈ ses, x.ok bs ps) ∧ Lay 5 v ∧ Bx (n + 200) d' := by
  obtain ⟨xs, ex⟩ := hB.lst
  subst ex
  refine w_def (σ := [.ln (.lst xs), .fz (.str nm), .fz (.int mb), .fz (.int mp), .fz (.int tp), .no, .no, .no, .no, .no, .no, .no, .no, .no, .no]) rfl ?_
  unfold F_l_works
  refine s_seq ?_
  refine s_par ?_
  refine w_rcons ?_
  refine w_call ?_
  refine w_s rfl ?_
  refine w_v ?_
  refine w_c ?_
  refine w_nil ?_
  refine ⟨rfl, _, rfl, (names_spec hB (by omega)).mono ?_⟩
  rintro _ _ _ ⟨ns, d', rfl, rfl, rfl, hnl, hnd, hno, hB1⟩
  obtain ⟨x1, ex⟩ := hB1.lst
  subst ex
  refine ⟨_, rfl, ?_⟩
  refine w_rcons ?_
  refine w_lst ?_
  refine w_dnil ?_
  refine ⟨Nat.zero_le _, ?_⟩
  refine w_rnil ?_
  refine ⟨_, rfl, ?_⟩
  refine s_seq ?_
  refine s_for ?_
  refine i_rng ?_
  repeat (first | refine s_seq ?_ | refine s_nil ?_ | refine s_set ?_ | refine s_if ?_ | refine s_ret ?_ | refine s_retV rfl ?_ | refine s_retO rfl ?_ | refine s_expr ?_ | refine s_unp ?_ | refine s_star ?_ | refine s_par ?_ | refine s_put ?_ | refine s_unpAt ?_ | refine p_k ⟨_, rfl, ?_⟩ | refine w_rnil ?_ | refine w_rcons ?_ | refine w_c ?_ | refine w_var rfl ?_ | refine w_varO rfl ?_ | refine w_nil ?_ | refine w_s rfl ?_ | refine w_v ?_ | refine w_prim ?_ | refine w_call ?_ | refine w_callT ?_ | refine w_methV ?_ | refine w_dnil ?_ | refine w_dcons ?_ | refine w_tup ?_ | refine w_lst ?_ | refine w_if ?_ | refine w_and ?_ | refine w_or ?_ | refine w_not ?_ | refine w_chain ?_ | refine w_sl ?_ | refine w_as rfl ?_ | refine w_av ?_ | refine w_bno ?_ | refine w_bat ?_ | refine w_fapp rfl ?_ | refine t_bl ?_ | refine t_val ?_ | refine t_and ?_ | refine t_or ?_ | refine t_not ?_ | refine i_ex ?_ | refine i_fz rfl rfl ?_ | refine i_rng ?_ | refine W.mk ?_ | refine ⟨_, _, rfl, rfl, ?_⟩ | refine ⟨_, rfl, ?_⟩)
  refine ⟨rfl, _, rfl, (take_spec (k := 2) hB1 (by omega) (by omega) (by omega)).mono ?_⟩
  rintro _ _ _ ⟨q, _, rfl, rfl, rfl, hB2, q0, q1⟩
  obtain ⟨xhB2, ex⟩ := hB2.lst
  subst ex
  refine ⟨_, rfl, ?_⟩
  repeat (first | refine s_seq ?_ | refine s_nil ?_ | refine s_set ?_ | refine s_if ?_ | refine s_ret ?_ | refine s_retV rfl ?_ | refine s_retO rfl ?_ | refine s_expr ?_ | refine s_unp ?_ | refine s_star ?_ | refine s_par ?_ | refine s_put ?_ | refine s_unpAt ?_ | refine p_k ⟨_, rfl, ?_⟩ | refine w_rnil ?_ | refine w_rcons ?_ | refine w_c ?_ | refine w_var rfl ?_ | refine w_varO rfl ?_ | refine w_nil ?_ | refine w_s rfl ?_ | refine w_v ?_ | refine w_prim ?_ | refine w_call ?_ | refine w_callT ?_ | refine w_methV ?_ | refine w_dnil ?_ | refine w_dcons ?_ | refine w_tup ?_ | refine w_lst ?_ | refine w_if ?_ | refine w_and ?_ | refine w_or ?_ | refine w_not ?_ | refine w_chain ?_ | refine w_sl ?_ | refine w_as rfl ?_ | refine w_av ?_ | refine w_bno ?_ | refine w_bat ?_ | refine w_fapp rfl ?_ | refine t_bl ?_ | refine t_val ?_ | refine t_and ?_ | refine t_or ?_ | refine t_not ?_ | refine i_ex ?_ | refine i_fz rfl rfl ?_ | refine i_rng ?_ | refine W.mk ?_ | refine ⟨_, _, rfl, rfl, ?_⟩ | refine ⟨_, rfl, ?_⟩)
  obtain ⟨q, rfl⟩ := Int.eq_ofNat_of_zero_le q0
  have ec : (1 : Int) + (q : Int) = ((1 + q : Nat) : Int) := by omega
  rw [ec]
  refine ⟨small_of (by omega) (by omega), fun i s => ∃ (bs : List Bo) (xs : List D) (a b e : Sl), s = [.ln (.lst xs), .fz (.str nm), .fz (.int mb), .fz (.int mp), .fz (.int tp), a, .ow (.lst (bs.map Bo.d)), .no, .no, .no, .no, .no, .ow (.lst (ns.map .str)), b, e] ∧ bs.map Bo.nm = ns.take i ∧ (∀ b ∈ bs, b.ok) ∧ Bx (n + 21 + 3 * i) (.lst xs) ∧ Free a ∧ Free b ∧ Free e, ⟨[], _, .no, .no, .no, rfl, by simp, by simp, hB2.mono (by omega), .no, .no, .no⟩, ?_, ?_⟩
  · rintro i d _ hd2 ⟨bs, xs, a, b, e, rfl, hp2, hbo, hB3, fa, fb, fe⟩
    obtain ⟨hi, rfl⟩ := rangeD_get hd2
    have hic : i < 1 + q := hi
    refine ⟨_, put_free rfl fa, ?_⟩
    repeat (first | refine s_seq ?_ | refine s_nil ?_ | refine s_set ?_ | refine s_if ?_ | refine s_ret ?_ | refine s_retV rfl ?_ | refine s_retO rfl ?_ | refine s_expr ?_ | refine s_unp ?_ | refine s_star ?_ | refine s_par ?_ | refine s_put ?_ | refine s_unpAt ?_ | refine p_k ⟨_, rfl, ?_⟩ | refine w_rnil ?_ | refine w_rcons ?_ | refine w_c ?_ | refine w_var rfl ?_ | refine w_varO rfl ?_ | refine w_nil ?_ | refine w_s rfl ?_ | refine w_v ?_ | refine w_prim ?_ | refine w_call ?_ | refine w_callT ?_ | refine w_methV ?_ | refine w_dnil ?_ | refine w_dcons ?_ | refine w_tup ?_ | refine w_lst ?_ | refine w_if ?_ | refine w_and ?_ | refine w_or ?_ | refine w_not ?_ | refine w_chain ?_ | refine w_sl ?_ | refine w_as rfl ?_ | refine w_av ?_ | refine w_bno ?_ | refine w_bat ?_ | refine w_fapp rfl ?_ | refine t_bl ?_ | refine t_val ?_ | refine t_and ?_ | refine t_or ?_ | refine t_not ?_ | refine i_ex ?_ | refine i_fz rfl rfl ?_ | refine i_rng ?_ | refine W.mk ?_ | refine ⟨_, _, rfl, rfl, ?_⟩ | refine ⟨_, rfl, ?_⟩)
    refine ⟨rfl, _, rfl, (take_spec (k := 2) hB3 (by omega) (by omega) (by omega)).mono ?_⟩
    rintro _ _ _ ⟨cp, _, rfl, rfl, rfl, hB4, cp0, cp1⟩
    obtain ⟨xhB4, ex⟩ := hB4.lst
    subst ex
    refine ⟨_, rfl, ?_⟩
    repeat (first | refine s_seq ?_ | refine s_nil ?_ | refine s_set ?_ | refine s_if ?_ | refine s_ret ?_ | refine s_retV rfl ?_ | refine s_retO rfl ?_ | refine s_expr ?_ | refine s_unp ?_ | refine s_star ?_ | refine s_par ?_ | refine s_put ?_ | refine s_unpAt ?_ | refine p_k ⟨_, rfl, ?_⟩ | refine w_rnil ?_ | refine w_rcons ?_ | refine w_c ?_ | refine w_var rfl ?_ | refine w_varO rfl ?_ | refine w_nil ?_ | refine w_s rfl ?_ | refine w_v ?_ | refine w_prim ?_ | refine w_call ?_ | refine w_callT ?_ | refine w_methV ?_ | refine w_dnil ?_ | refine w_dcons ?_ | refine w_tup ?_ | refine w_lst ?_ | refine w_if ?_ | refine w_and ?_ | refine w_or ?_ | refine w_not ?_ | refine w_chain ?_ | refine w_sl ?_ | refine w_as rfl ?_ | refine w_av ?_ | refine w_bno ?_ | refine w_bat ?_ | refine w_fapp rfl ?_ | refine t_bl ?_ | refine t_val ?_ | refine t_and ?_ | refine t_or ?_ | refine t_not ?_ | refine i_ex ?_ | refine i_fz rfl rfl ?_ | refine i_rng ?_ | refine W.mk ?_ | refine ⟨_, _, rfl, rfl, ?_⟩ | refine ⟨_, rfl, ?_⟩)
    obtain ⟨cp, rfl⟩ := Int.eq_ofNat_of_zero_le cp0
    have ecp : (1 : Int) + (cp : Int) = ((1 + cp : Nat) : Int) := by omega
    rw [ecp]
    refine ⟨_, store_free rfl fb, ?_⟩
    repeat (first | refine s_seq ?_ | refine s_nil ?_ | refine s_set ?_ | refine s_if ?_ | refine s_ret ?_ | refine s_retV rfl ?_ | refine s_retO rfl ?_ | refine s_expr ?_ | refine s_unp ?_ | refine s_star ?_ | refine s_par ?_ | refine s_put ?_ | refine s_unpAt ?_ | refine p_k ⟨_, rfl, ?_⟩ | refine w_rnil ?_ | refine w_rcons ?_ | refine w_c ?_ | refine w_var rfl ?_ | refine w_varO rfl ?_ | refine w_nil ?_ | refine w_s rfl ?_ | refine w_v ?_ | refine w_prim ?_ | refine w_call ?_ | refine w_callT ?_ | refine w_methV ?_ | refine w_dnil ?_ | refine w_dcons ?_ | refine w_tup ?_ | refine w_lst ?_ | refine w_if ?_ | refine w_and ?_ | refine w_or ?_ | refine w_not ?_ | refine w_chain ?_ | refine w_sl ?_ | refine w_as rfl ?_ | refine w_av ?_ | refine w_bno ?_ | refine w_bat ?_ | refine w_fapp rfl ?_ | refine t_bl ?_ | refine t_val ?_ | refine t_and ?_ | refine t_or ?_ | refine t_not ?_ | refine i_ex ?_ | refine i_fz rfl rfl ?_ | refine i_rng ?_ | refine W.mk ?_ | refine ⟨_, _, rfl, rfl, ?_⟩ | refine ⟨_, rfl, ?_⟩)
    refine ⟨rfl, _, rfl, (take_spec (k := 2) hB4 (by omega) (by omega) (by omega)).mono ?_⟩
    rintro _ _ _ ⟨lw, _, rfl, rfl, rfl, hB5, lw0, lw1⟩
    obtain ⟨xhB5, ex⟩ := hB5.lst
    subst ex
    refine ⟨_, rfl, ?_⟩
    repeat (first | refine s_seq ?_ | refine s_nil ?_ | refine s_set ?_ | refine s_if ?_ | refine s_ret ?_ | refine s_retV rfl ?_ | refine s_retO rfl ?_ | refine s_expr ?_ | refine s_unp ?_ | refine s_star ?_ | refine s_par ?_ | refine s_put ?_ | refine s_unpAt ?_ | refine p_k ⟨_, rfl, ?_⟩ | refine w_rnil ?_ | refine w_rcons ?_ | refine w_c ?_ | refine w_var rfl ?_ | refine w_varO rfl ?_ | refine w_nil ?_ | refine w_s rfl ?_ | refine w_v ?_ | refine w_prim ?_ | refine w_call ?_ | refine w_callT ?_ | refine w_methV ?_ | refine w_dnil ?_ | refine w_dcons ?_ | refine w_tup ?_ | refine w_lst ?_ | refine w_if ?_ | refine w_and ?_ | refine w_or ?_ | refine w_not ?_ | refine w_chain ?_ | refine w_sl ?_ | refine w_as rfl ?_ | refine w_av ?_ | refine w_bno ?_ | refine w_bat ?_ | refine w_fapp rfl ?_ | refine t_bl ?_ | refine t_val ?_ | refine t_and ?_ | refine t_or ?_ | refine t_not ?_ | refine i_ex ?_ | refine i_fz rfl rfl ?_ | refine i_rng ?_ | refine W.mk ?_ | refine ⟨_, _, rfl, rfl, ?_⟩ | refine ⟨_, rfl, ?_⟩)
    obtain ⟨lw, rfl⟩ := Int.eq_ofNat_of_zero_le lw0
    refine ⟨_, store_free rfl fe, ?_⟩
    have hnm : ∃ x : Str, pIx [.lst (ns.map .str), .int i] = some ⟨.str x, false⟩ ∧ okS 8 x ∧ ns.take (i + 1) = ns.take i ++ [x] := by
      have hlt : i < ns.length := by omega
      refine ⟨ns[i], pIx_ok rfl (atI_nat (by rw [List.getElem?_map, List.getElem?_eq_getElem hlt]; rfl)), hno _ (List.getElem_mem ..), ?_⟩
      rw [List.take_add_one, List.getElem?_eq_getElem hlt]; rfl
    obtain ⟨x, hx, hxo, htk⟩ := hnm
    refine s_seq ?_
    refine s_expr ?_
    refine w_fapp rfl ?_
    refine w_tup ?_
    refine w_dcons ?_
    refine w_prim ?_
    refine w_s rfl ?_
    refine w_s rfl ?_
    refine w_nil ?_
    refine ⟨_, _, rfl, hx, ?_⟩
    repeat (first | refine s_seq ?_ | refine s_nil ?_ | refine s_set ?_ | refine s_if ?_ | refine s_ret ?_ | refine s_retV rfl ?_ | refine s_retO rfl ?_ | refine s_expr ?_ | refine s_unp ?_ | refine s_star ?_ | refine s_par ?_ | refine s_put ?_ | refine s_unpAt ?_ | refine p_k ⟨_, rfl, ?_⟩ | refine w_rnil ?_ | refine w_rcons ?_ | refine w_c ?_ | refine w_var rfl ?_ | refine w_varO rfl ?_ | refine w_nil ?_ | refine w_s rfl ?_ | refine w_v ?_ | refine w_prim ?_ | refine w_call ?_ | refine w_callT ?_ | refine w_methV ?_ | refine w_dnil ?_ | refine w_dcons ?_ | refine w_tup ?_ | refine w_lst ?_ | refine w_if ?_ | refine w_and ?_ | refine w_or ?_ | refine w_not ?_ | refine w_chain ?_ | refine w_sl ?_ | refine w_as rfl ?_ | refine w_av ?_ | refine w_bno ?_ | refine w_bat ?_ | refine w_fapp rfl ?_ | refine t_bl ?_ | refine t_val ?_ | refine t_and ?_ | refine t_or ?_ | refine t_not ?_ | refine i_ex ?_ | refine i_fz rfl rfl ?_ | refine i_rng ?_ | refine W.mk ?_ | refine ⟨_, _, rfl, rfl, ?_⟩ | refine ⟨_, rfl, ?_⟩)
    refine ⟨rfl, _, rfl, (take_spec (k := 2) hB5 (by omega) (by omega) (by omega)).mono ?_⟩
    rintro _ _ _ ⟨up, _, rfl, rfl, rfl, hB6, up0, up1⟩
    obtain ⟨xhB6, ex⟩ := hB6.lst
    subst ex
    refine ⟨_, rfl, ?_⟩
    repeat (first | refine s_seq ?_ | refine s_nil ?_ | refine s_set ?_ | refine s_if ?_ | refine s_ret ?_ | refine s_retV rfl ?_ | refine s_retO rfl ?_ | refine s_expr ?_ | refine s_unp ?_ | refine s_star ?_ | refine s_par ?_ | refine s_put ?_ | refine s_unpAt ?_ | refine p_k ⟨_, rfl, ?_⟩ | refine w_rnil ?_ | refine w_rcons ?_ | refine w_c ?_ | refine w_var rfl ?_ | refine w_varO rfl ?_ | refine w_nil ?_ | refine w_s rfl ?_ | refine w_v ?_ | refine w_prim ?_ | refine w_call ?_ | refine w_callT ?_ | refine w_methV ?_ | refine w_dnil ?_ | refine w_dcons ?_ | refine w_tup ?_ | refine w_lst ?_ | refine w_if ?_ | refine w_and ?_ | refine w_or ?_ | refine w_not ?_ | refine w_chain ?_ | refine w_sl ?_ | refine w_as rfl ?_ | refine w_av ?_ | refine w_bno ?_ | refine w_bat ?_ | refine w_fapp rfl ?_ | refine t_bl ?_ | refine t_val ?_ | refine t_and ?_ | refine t_or ?_ | refine t_not ?_ | refine i_ex ?_ | refine i_fz rfl rfl ?_ | refine i_rng ?_ | refine W.mk ?_ | refine ⟨_, _, rfl, rfl, ?_⟩ | refine ⟨_, rfl, ?_⟩)
    obtain ⟨up, rfl⟩ := Int.eq_ofNat_of_zero_le up0
    have eh : (if (lw : Int) + (up : Int) < ((1 + cp : Nat) : Int) then (lw : Int) + (up : Int) else ((1 + cp : Nat) : Int)) = ((min (1 + cp) (lw + up) : Nat) : Int) := by split <;> omega
    rw [eh]
    have hbl : bs.length ≤ 3 := by
      have := congrArg List.length hp2
      rw [List.length_map, List.length_take] at this
      omega
    refine ⟨by have := sizeLine_eq; show 4 ≤ sizeLine; omega, _, rfl, by rw [List.length_map]; have := sizeLine_eq; omega, ?_⟩
    repeat (first | refine s_seq ?_ | refine s_nil ?_ | refine s_set ?_ | refine s_if ?_ | refine s_ret ?_ | refine s_retV rfl ?_ | refine s_retO rfl ?_ | refine s_expr ?_ | refine s_unp ?_ | refine s_star ?_ | refine s_par ?_ | refine s_put ?_ | refine s_unpAt ?_ | refine p_k ⟨_, rfl, ?_⟩ | refine w_rnil ?_ | refine w_rcons ?_ | refine w_c ?_ | refine w_var rfl ?_ | refine w_varO rfl ?_ | refine w_nil ?_ | refine w_s rfl ?_ | refine w_v ?_ | refine w_prim ?_ | refine w_call ?_ | refine w_callT ?_ | refine w_methV ?_ | refine w_dnil ?_ | refine w_dcons ?_ | refine w_tup ?_ | refine w_lst ?_ | refine w_if ?_ | refine w_and ?_ | refine w_or ?_ | refine w_not ?_ | refine w_chain ?_ | refine w_sl ?_ | refine w_as rfl ?_ | refine w_av ?_ | refine w_bno ?_ | refine w_bat ?_ | refine w_fapp rfl ?_ | refine t_bl ?_ | refine t_val ?_ | refine t_and ?_ | refine t_or ?_ | refine t_not ?_ | refine i_ex ?_ | refine i_fz rfl rfl ?_ | refine i_rng ?_ | refine W.mk ?_ | refine ⟨_, _, rfl, rfl, ?_⟩ | refine ⟨_, rfl, ?_⟩)
    refine ⟨bs ++ [⟨x, 1 + cp, lw, min (1 + cp) (lw + up)⟩], _, _, _, _, by rw [List.map_append]; rfl, by rw [List.map_append, hp2, htk]; rfl, ?_, hB6.mono (by omega), .fz, .fz, .fz⟩
    intro y hy
    rcases List.mem_append.mp hy with h | h
    · exact hbo y h
    · rw [List.mem_singleton.mp h]
      exact ⟨hxo, by show 1 ≤ 1 + cp; omega, by show 1 + cp ≤ 9; omega, by show lw ≤ 1 + cp; omega, by show min (1 + cp) (lw + up) ≤ 1 + cp; omega⟩
  · rintro _ ⟨bs, xs, a, b, e, rfl, hp2, hbo, hB3, fa, fb, fe⟩
    rw [rangeD_lenN] at hp2 hB3
    have hbl : bs.length = 1 + q := by
      have := congrArg List.length hp2
      rw [List.length_map, List.length_take] at this
      omega
    have hbd : (bs.map Bo.nm).Nodup := by
      rw [hp2]
      exact hnd.sublist (List.take_sublist ..)
    obtain ⟨qs, hq, perm⟩ := sorted_boxes (by omega) hbd
    have hql : qs.length = 1 + q := by rw [perm.length_eq, hbl]
    have hqd : (qs.map Bo.nm).Nodup := (perm.map Bo.nm).nodup_iff.mpr hbd
    have hqo : ∀ b ∈ qs, b.ok := fun b h => hbo b (perm.mem_iff.mp h)
    repeat (first | refine s_seq ?_ | refine s_nil ?_ | refine s_set ?_ | refine s_if ?_ | refine s_ret ?_ | refine s_retV rfl ?_ | refine s_retO rfl ?_ | refine s_expr ?_ | refine s_unp ?_ | refine s_star ?_ | refine s_par ?_ | refine s_put ?_ | refine s_unpAt ?_ | refine p_k ⟨_, rfl, ?_⟩ | refine w_rnil ?_ | refine w_rcons ?_ | refine w_c ?_ | refine w_var rfl ?_ | refine w_varO rfl ?_ | refine w_nil ?_ | refine w_s rfl ?_ | refine w_v ?_ | refine w_prim ?_ | refine w_call ?_ | refine w_callT ?_ | refine w_methV ?_ | refine w_dnil ?_ | refine w_dcons ?_ | refine w_tup ?_ | refine w_lst ?_ | refine w_if ?_ | refine w_and ?_ | refine w_or ?_ | refine w_not ?_ | refine w_chain ?_ | refine w_sl ?_ | refine w_as rfl ?_ | refine w_av ?_ | refine w_bno ?_ | refine w_bat ?_ | refine w_fapp rfl ?_ | refine t_bl ?_ | refine t_val ?_ | refine t_and ?_ | refine t_or ?_ | refine t_not ?_ | refine i_ex ?_ | refine i_fz rfl rfl ?_ | refine i_rng ?_ | refine W.mk ?_ | refine ⟨_, _, rfl, rfl, ?_⟩ | refine ⟨_, rfl, ?_⟩)
    refine ⟨_, _, rfl, hq, ?_⟩
    obtain ⟨q0, qr, rfl⟩ : ∃ q0 qr, qs = q0 :: qr := by
      cases qs with
      | nil => simp at hql; omega
      | cons q0 qr => exact ⟨q0, qr, rfl⟩
    refine w_nil ?_
    refine ⟨_, _, rfl, rfl, ?_⟩
    refine ⟨_, rfl, ?_⟩
    refine s_seq ?_
    refine s_set ?_
    refine w_prim ?_
    refine w_v ?_
    refine w_lst ?_
    refine w_dcons ?_
    refine w_c ?_
    refine w_dcons ?_
    refine w_c ?_
    refine w_dnil ?_
    refine ⟨by have := sizeLine_eq; show 2 ≤ sizeLine; omega, ?_⟩
    repeat (first | refine s_seq ?_ | refine s_nil ?_ | refine s_set ?_ | refine s_if ?_ | refine s_ret ?_ | refine s_retV rfl ?_ | refine s_retO rfl ?_ | refine s_expr ?_ | refine s_unp ?_ | refine s_star ?_ | refine s_par ?_ | refine s_put ?_ | refine s_unpAt ?_ | refine p_k ⟨_, rfl, ?_⟩ | refine w_rnil ?_ | refine w_rcons ?_ | refine w_c ?_ | refine w_var rfl ?_ | refine w_varO rfl ?_ | refine w_nil ?_ | refine w_s rfl ?_ | refine w_v ?_ | refine w_prim ?_ | refine w_call ?_ | refine w_callT ?_ | refine w_methV ?_ | refine w_dnil ?_ | refine w_dcons ?_ | refine w_tup ?_ | refine w_lst ?_ | refine w_if ?_ | refine w_and ?_ | refine w_or ?_ | refine w_not ?_ | refine w_chain ?_ | refine w_sl ?_ | refine w_as rfl ?_ | refine w_av ?_ | refine w_bno ?_ | refine w_bat ?_ | refine w_fapp rfl ?_ | refine t_bl ?_ | refine t_val ?_ | refine t_and ?_ | refine t_or ?_ | refine t_not ?_ | refine i_ex ?_ | refine i_fz rfl rfl ?_ | refine i_rng ?_ | refine W.mk ?_ | refine ⟨_, _, rfl, rfl, ?_⟩ | refine ⟨_, rfl, ?_⟩)
    have haa : ∃ aa : Nat, (aa = 0 ∨ aa = 3) ∧ pIx [.lst [.int 3, .int 0], .int (if eqv (.int (q0.cap : Int)) (.int 2) = true then 1 else 0)] = some ⟨.int (aa : Nat), false⟩ := by
      cases eqv (.int (q0.cap : Int)) (.int 2)
      · exact ⟨3, .inr rfl, rfl⟩
      · exact ⟨0, .inl rfl, rfl⟩
    obtain ⟨aa, haa, hix⟩ := haa
    refine ⟨_, _, rfl, pIx_ok rfl (atI_nat (j := 0) rfl), ?_⟩
    repeat (first | refine s_seq ?_ | refine s_nil ?_ | refine s_set ?_ | refine s_if ?_ | refine s_ret ?_ | refine s_retV rfl ?_ | refine s_retO rfl ?_ | refine s_expr ?_ | refine s_unp ?_ | refine s_star ?_ | refine s_par ?_ | refine s_put ?_ | refine s_unpAt ?_ | refine p_k ⟨_, rfl, ?_⟩ | refine w_rnil ?_ | refine w_rcons ?_ | refine w_c ?_ | refine w_var rfl ?_ | refine w_varO rfl ?_ | refine w_nil ?_ | refine w_s rfl ?_ | refine w_v ?_ | refine w_prim ?_ | refine w_call ?_ | refine w_callT ?_ | refine w_methV ?_ | refine w_dnil ?_ | refine w_dcons ?_ | refine w_tup ?_ | refine w_lst ?_ | refine w_if ?_ | refine w_and ?_ | refine w_or ?_ | refine w_not ?_ | refine w_chain ?_ | refine w_sl ?_ | refine w_as rfl ?_ | refine w_av ?_ | refine w_bno ?_ | refine w_bat ?_ | refine w_fapp rfl ?_ | refine t_bl ?_ | refine t_val ?_ | refine t_and ?_ | refine t_or ?_ | refine t_not ?_ | refine i_ex ?_ | refine i_fz rfl rfl ?_ | refine i_rng ?_ | refine W.mk ?_ | refine ⟨_, _, rfl, rfl, ?_⟩ | refine ⟨_, rfl, ?_⟩)
    refine ⟨_, _, rfl, hix, ?_⟩
    refine ⟨_, rfl, ?_⟩
    have hdl : ∀ a : Nat, (ns.drop a).Nodup := fun a => hnd.sublist (List.drop_sublist ..)
    have hal : ∀ a b : Nat, a + b ≤ 26 → ((ns.drop a).take b).length = b := fun a b h => by rw [List.length_take, List.length_drop]; omega
    have had : ∀ a b : Nat, ((ns.drop a).take b).Nodup := fun a b => (hdl a).sublist (List.take_sublist ..)
    have hao : ∀ a b : Nat, ∀ s ∈ (ns.drop a).take b, okS 8 s := fun a b s h => hno s (List.mem_of_mem_drop (List.mem_of_mem_take h))
    refine s_seq ?_
    refine s_set ?_
    refine w_call ?_
    refine w_s rfl ?_
    refine w_v ?_
    refine w_sl ?_
    refine w_as rfl ?_
    refine w_bat ?_
    refine w_as rfl ?_
    refine ⟨_, rfl, ?_⟩
    refine w_bat ?_
    refine w_av ?_
    refine w_prim ?_
    refine w_s rfl ?_
    refine w_v ?_
    refine w_c ?_
    refine w_nil ?_
    refine ⟨_, _, rfl, rfl, ?_⟩
    refine ⟨_, rfl, ?_⟩
    refine ⟨_, _, rfl, rfl, ?_⟩
    refine w_v ?_
    refine w_prim ?_
    refine w_v ?_
    refine w_c ?_
    refine w_v ?_
    refine w_call ?_
    refine w_s rfl ?_
    refine w_v ?_
    refine w_var rfl ?_
    refine w_nil ?_
    refine ⟨rfl, _, rfl, (take_spec (k := 2) hB3 (by omega) (by omega) (by omega)).mono ?_⟩
    rintro _ _ _ ⟨c1, _, rfl, rfl, rfl, hB4, c10, c11⟩
    obtain ⟨xhB4, ex⟩ := hB4.lst
    subst ex
    refine ⟨_, rfl, ?_⟩
    repeat (first | refine s_seq ?_ | refine s_nil ?_ | refine s_set ?_ | refine s_if ?_ | refine s_ret ?_ | refine s_retV rfl ?_ | refine s_retO rfl ?_ | refine s_expr ?_ | refine s_unp ?_ | refine s_star ?_ | refine s_par ?_ | refine s_put ?_ | refine s_unpAt ?_ | refine p_k ⟨_, rfl, ?_⟩ | refine w_rnil ?_ | refine w_rcons ?_ | refine w_c ?_ | refine w_var rfl ?_ | refine w_varO rfl ?_ | refine w_nil ?_ | refine w_s rfl ?_ | refine w_v ?_ | refine w_prim ?_ | refine w_call ?_ | refine w_callT ?_ | refine w_methV ?_ | refine w_dnil ?_ | refine w_dcons ?_ | refine w_tup ?_ | refine w_lst ?_ | refine w_if ?_ | refine w_and ?_ | refine w_or ?_ | refine w_not ?_ | refine w_chain ?_ | refine w_sl ?_ | refine w_as rfl ?_ | refine w_av ?_ | refine w_bno ?_ | refine w_bat ?_ | refine w_fapp rfl ?_ | refine t_bl ?_ | refine t_val ?_ | refine t_and ?_ | refine t_or ?_ | refine t_not ?_ | refine i_ex ?_ | refine i_fz rfl rfl ?_ | refine i_rng ?_ | refine W.mk ?_ | refine ⟨_, _, rfl, rfl, ?_⟩ | refine ⟨_, rfl, ?_⟩)
    obtain ⟨c1, rfl⟩ := Int.eq_ofNat_of_zero_le c10
    have ec1 : (1 : Int) + (c1 : Int) = ((1 + c1 : Nat) : Int) := by omega
    have ecut : cutD (ns.map .str) (some (aa : Int)) (some ((aa : Int) + 16)) = ((ns.drop aa).take 16).map .str := cut_str (b := 16) (by omega)
    rw [ec1, ecut]
    refine ⟨rfl, _, rfl, (parts_spec hB4 (by omega) (hal _ _ (by omega)) (by omega) (by omega) (had _ _) (hao _ _)).mono ?_⟩
    rintro _ _ _ ⟨ps, d', rfl, rfl, rfl, hpl, hpo, hpn, hB5⟩
    obtain ⟨x5, ex⟩ := hB5.lst
    subst ex
    have hpne : ps ≠ [] := by intro e; rw [e] at hpl; simp at hpl; omega
    refine ⟨_, rfl, ?_⟩
    refine ⟨_, rfl, ?_⟩
    refine s_seq ?_
    refine s_set ?_
    refine w_call ?_
    refine w_s rfl ?_
    refine w_v ?_
    refine w_var rfl ?_
    refine w_v ?_
    refine w_var rfl ?_
    refine w_v ?_
    refine w_call ?_
    refine w_s rfl ?_
    refine w_v ?_
    refine w_c ?_
    refine w_nil ?_
    refine ⟨rfl, _, rfl, (take_spec (k := 2) hB5 (by omega) (by omega) (by omega)).mono ?_⟩
    rintro _ _ _ ⟨c2, _, rfl, rfl, rfl, hB6, c20, c21⟩
    obtain ⟨xhB6, ex⟩ := hB6.lst
    subst ex
    refine ⟨_, rfl, ?_⟩
    repeat (first | refine s_seq ?_ | refine s_nil ?_ | refine s_set ?_ | refine s_if ?_ | refine s_ret ?_ | refine s_retV rfl ?_ | refine s_retO rfl ?_ | refine s_expr ?_ | refine s_unp ?_ | refine s_star ?_ | refine s_par ?_ | refine s_put ?_ | refine s_unpAt ?_ | refine p_k ⟨_, rfl, ?_⟩ | refine w_rnil ?_ | refine w_rcons ?_ | refine w_c ?_ | refine w_var rfl ?_ | refine w_varO rfl ?_ | refine w_nil ?_ | refine w_s rfl ?_ | refine w_v ?_ | refine w_prim ?_ | refine w_call ?_ | refine w_callT ?_ | refine w_methV ?_ | refine w_dnil ?_ | refine w_dcons ?_ | refine w_tup ?_ | refine w_lst ?_ | refine w_if ?_ | refine w_and ?_ | refine w_or ?_ | refine w_not ?_ | refine w_chain ?_ | refine w_sl ?_ | refine w_as rfl ?_ | refine w_av ?_ | refine w_bno ?_ | refine w_bat ?_ | refine w_fapp rfl ?_ | refine t_bl ?_ | refine t_val ?_ | refine t_and ?_ | refine t_or ?_ | refine t_not ?_ | refine i_ex ?_ | refine i_fz rfl rfl ?_ | refine i_rng ?_ | refine W.mk ?_ | refine ⟨_, _, rfl, rfl, ?_⟩ | refine ⟨_, rfl, ?_⟩)
    obtain ⟨c2, rfl⟩ := Int.eq_ofNat_of_zero_le c20
    refine ⟨rfl, _, rfl, (pipes_spec (bs := q0 :: qr) hB6 (by omega) (by simp) (by omega) hqo hpne (by omega) hpo (by omega)).mono ?_⟩
    rintro _ _ _ ⟨d1, d', rfl, rfl, rfl, hl1, hd1, hB7⟩
    obtain ⟨x7, ex⟩ := hB7.lst
    subst ex
    refine ⟨_, rfl, ?_⟩
    refine ⟨_, rfl, ?_⟩
    refine s_seq ?_
    refine s_set ?_
    refine w_call ?_
    refine w_s rfl ?_
    refine w_v ?_
    refine w_sl ?_
    refine w_av ?_
    refine w_sl ?_
    refine w_as rfl ?_
    refine w_bat ?_
    refine w_av ?_
    refine w_prim ?_
    refine w_v ?_
    refine w_prim ?_
    refine w_s rfl ?_
    refine w_v ?_
    refine w_c ?_
    refine w_nil ?_
    refine ⟨_, _, rfl, mul_ok (.inr rfl), ?_⟩
    refine w_v ?_
    refine w_prim ?_
    refine w_s rfl ?_
    refine w_v ?_
    refine w_c ?_
    refine w_nil ?_
    refine ⟨_, _, rfl, div_ok (by omega) (by omega), ?_⟩
    refine w_nil ?_
    refine ⟨_, _, rfl, rfl, ?_⟩
    have e19 : (aa : Int) * 6 + (aa : Int) / 3 = ((aa * 6 + aa / 3 : Nat) : Int) := by omega
    rw [e19]
    refine ⟨_, rfl, ?_⟩
    refine w_bno ?_
    refine ⟨_, _, rfl, rfl, ?_⟩
    refine w_bno ?_
    refine w_bat ?_
    refine w_av ?_
    refine w_c ?_
    refine ⟨_, rfl, ?_⟩
    refine ⟨_, _, rfl, rfl, ?_⟩
    refine w_v ?_
    refine w_var rfl ?_
    refine w_v ?_
    refine w_call ?_
    refine w_s rfl ?_
    refine w_v ?_
    refine w_c ?_
    refine w_nil ?_
    refine ⟨rfl, _, rfl, (take_spec (k := 2) hB7 (by omega) (by omega) (by omega)).mono ?_⟩
    rintro _ _ _ ⟨c3, _, rfl, rfl, rfl, hB8, c30, c31⟩
    obtain ⟨xhB8, ex⟩ := hB8.lst
    subst ex
    refine ⟨_, rfl, ?_⟩
    repeat (first | refine s_seq ?_ | refine s_nil ?_ | refine s_set ?_ | refine s_if ?_ | refine s_ret ?_ | refine s_retV rfl ?_ | refine s_retO rfl ?_ | refine s_expr ?_ | refine s_unp ?_ | refine s_star ?_ | refine s_par ?_ | refine s_put ?_ | refine s_unpAt ?_ | refine p_k ⟨_, rfl, ?_⟩ | refine w_rnil ?_ | refine w_rcons ?_ | refine w_c ?_ | refine w_var rfl ?_ | refine w_varO rfl ?_ | refine w_nil ?_ | refine w_s rfl ?_ | refine w_v ?_ | refine w_prim ?_ | refine w_call ?_ | refine w_callT ?_ | refine w_methV ?_ | refine w_dnil ?_ | refine w_dcons ?_ | refine w_tup ?_ | refine w_lst ?_ | refine w_if ?_ | refine w_and ?_ | refine w_or ?_ | refine w_not ?_ | refine w_chain ?_ | refine w_sl ?_ | refine w_as rfl ?_ | refine w_av ?_ | refine w_bno ?_ | refine w_bat ?_ | refine w_fapp rfl ?_ | refine t_bl ?_ | refine t_val ?_ | refine t_and ?_ | refine t_or ?_ | refine t_not ?_ | refine i_ex ?_ | refine i_fz rfl rfl ?_ | refine i_rng ?_ | refine W.mk ?_ | refine ⟨_, _, rfl, rfl, ?_⟩ | refine ⟨_, rfl, ?_⟩)
    obtain ⟨c3, rfl⟩ := Int.eq_ofNat_of_zero_le c30
    have ecut2 : cutD (cutD (ns.map .str) (some ((aa * 6 + aa / 3 : Nat) : Int)) none) none (some 3) = ((ns.drop (aa * 6 + aa / 3)).take 3).map .str := by
      rw [cut_from (by omega)]
      exact cut_to (b := 3) (by rw [List.length_drop]; omega)
    rw [ecut2]
    refine ⟨rfl, _, rfl, (deeds_spec hB8 (by omega) (hal _ _ (by omega)) (had _ _) (hao _ _) hpne (by omega) hpo (by omega)).mono ?_⟩
    rintro _ _ _ ⟨d2, d', rfl, rfl, rfl, hl2, hd2, hB9⟩
    obtain ⟨x9, ex⟩ := hB9.lst
    subst ex
    refine ⟨_, rfl, ?_⟩
    refine ⟨_, rfl, ?_⟩
    refine s_seq ?_
    refine s_set ?_
    refine w_call ?_
    refine w_s rfl ?_
    refine w_v ?_
    refine w_sl ?_
    refine w_av ?_
    refine w_sl ?_
    refine w_as rfl ?_
    refine w_bat ?_
    refine w_av ?_
    refine w_prim ?_
    refine w_v ?_
    refine w_prim ?_
    refine w_s rfl ?_
    refine w_v ?_
    refine w_c ?_
    refine w_nil ?_
    refine ⟨_, _, rfl, mul_ok (.inr rfl), ?_⟩
    refine w_v ?_
    refine w_prim ?_
    refine w_s rfl ?_
    refine w_v ?_
    refine w_c ?_
    refine w_nil ?_
    refine ⟨_, _, rfl, div_ok (by omega) (by omega), ?_⟩
    refine w_nil ?_
    refine ⟨_, _, rfl, rfl, ?_⟩
    have e22 : (aa : Int) * 7 + (aa : Int) / 3 = ((aa * 7 + aa / 3 : Nat) : Int) := by omega
    rw [e22]
    refine ⟨_, rfl, ?_⟩
    refine w_bno ?_
    refine ⟨_, _, rfl, rfl, ?_⟩
    refine w_bno ?_
    refine w_bat ?_
    refine w_av ?_
    refine w_c ?_
    refine ⟨_, rfl, ?_⟩
    refine ⟨_, _, rfl, rfl, ?_⟩
    refine w_v ?_
    refine w_var rfl ?_
    refine w_v ?_
    refine w_var rfl ?_
    refine w_v ?_
    refine w_call ?_
    refine w_s rfl ?_
    refine w_v ?_
    refine w_c ?_
    refine w_nil ?_
    refine ⟨rfl, _, rfl, (take_spec (k := 2) hB9 (by omega) (by omega) (by omega)).mono ?_⟩
    rintro _ _ _ ⟨c4, _, rfl, rfl, rfl, hB10, c40, c41⟩
    obtain ⟨xhB10, ex⟩ := hB10.lst
    subst ex
    refine ⟨_, rfl, ?_⟩
    repeat (first | refine s_seq ?_ | refine s_nil ?_ | refine s_set ?_ | refine s_if ?_ | refine s_ret ?_ | refine s_retV rfl ?_ | refine s_retO rfl ?_ | refine s_expr ?_ | refine s_unp ?_ | refine s_star ?_ | refine s_par ?_ | refine s_put ?_ | refine s_unpAt ?_ | refine p_k ⟨_, rfl, ?_⟩ | refine w_rnil ?_ | refine w_rcons ?_ | refine w_c ?_ | refine w_var rfl ?_ | refine w_varO rfl ?_ | refine w_nil ?_ | refine w_s rfl ?_ | refine w_v ?_ | refine w_prim ?_ | refine w_call ?_ | refine w_callT ?_ | refine w_methV ?_ | refine w_dnil ?_ | refine w_dcons ?_ | refine w_tup ?_ | refine w_lst ?_ | refine w_if ?_ | refine w_and ?_ | refine w_or ?_ | refine w_not ?_ | refine w_chain ?_ | refine w_sl ?_ | refine w_as rfl ?_ | refine w_av ?_ | refine w_bno ?_ | refine w_bat ?_ | refine w_fapp rfl ?_ | refine t_bl ?_ | refine t_val ?_ | refine t_and ?_ | refine t_or ?_ | refine t_not ?_ | refine i_ex ?_ | refine i_fz rfl rfl ?_ | refine i_rng ?_ | refine W.mk ?_ | refine ⟨_, _, rfl, rfl, ?_⟩ | refine ⟨_, rfl, ?_⟩)
    obtain ⟨c4, rfl⟩ := Int.eq_ofNat_of_zero_le c40
    have ecut3 : cutD (cutD (ns.map .str) (some ((aa * 7 + aa / 3 : Nat) : Int)) none) none (some 4) = ((ns.drop (aa * 7 + aa / 3)).take 4).map .str := by
      rw [cut_from (by omega)]
      exact cut_to (b := 4) (by rw [List.length_drop]; omega)
    rw [ecut3]
    refine ⟨rfl, _, rfl, (sens_spec (bs := q0 :: qr) hB10 (by omega) (hal _ _ (by omega)) (had _ _) (hao _ _) (by simp) (by omega) hpne (by omega) (by omega)).mono ?_⟩
    rintro _ _ _ ⟨ses, d', rfl, rfl, rfl, hl3, hd3, hsn, hB11⟩
    obtain ⟨x11, ex⟩ := hB11.lst
    subst ex
    refine ⟨_, rfl, ?_⟩
    refine ⟨_, rfl, ?_⟩
    refine s_seq ?_
    refine s_ret ?_
    refine w_tup ?_
    refine w_dcons ?_
    refine w_var rfl ?_
    refine w_dcons ?_
    refine w_var rfl ?_
    refine w_dcons ?_
    refine w_var rfl ?_
    refine w_dcons ?_
    refine w_var rfl ?_
    refine w_dcons ?_
    refine w_var rfl ?_
    refine w_dcons ?_
    refine w_var rfl ?_
    refine w_dnil ?_
    refine ⟨by have := sizeLine_eq; show 6 ≤ sizeLine; omega, ?_⟩
    exact ⟨_, rfl, q0 :: qr, ps, d1, d2, ses, _, rfl, rfl, rfl, by simp, by omega, hqd, hqo, hpne, by omega, hpn, hpo, hl3, hsn, hd3, workD_lay hnmo (by omega) hqo (by omega) hpo hl1 hd1 hl2 hd2 hl3 hd3, hB11.mono (by omega)⟩
end L26
set_option autoImplicit false
set_option Elab.async false
set_option linter.all false
set_option maxRecDepth 100000
set_option pp.maxSteps 500
set_option pp.deepTerms false
namespace L26
open PySem L2 Wt
/-! ### rows side by side, likenesses -/
inductive F2 {α β : Type} (r : α → β → Prop) : List α → List β → Prop
  | nil : F2 r [] []
  | cons {a : α} {b : β} {as : List α} {bs : List β} (h : r a b) (t : F2 r as bs) : F2 r (a :: as) (b :: bs)
namespace F2
variable {α β γ : Type} {r : α → β → Prop} {as : List α} {bs : List β}
theorem len (h : F2 r as bs) : as.length = bs.length := by
  induction h with
  | nil => rfl
  | cons _ _ ih => rw [List.length_cons, List.length_cons, ih]
theorem imp {q : α → β → Prop} (h : F2 r as bs) (m : ∀ a b, a ∈ as → r a b → q a b) : F2 q as bs := by
  induction h with
  | nil => exact .nil
  | cons h _ ih => exact .cons (m _ _ (List.mem_cons_self ..) h) (ih fun a b ha => m a b (List.mem_cons_of_mem _ ha))
theorem get (h : F2 r as bs) {i : Nat} {a : α} (e : as[i]? = some a) : ∃ b, bs[i]? = some b ∧ r a b := by
  induction h generalizing i with
  | nil => simp at e
  | cons h _ ih =>
    cases i with
    | zero => simp at e; subst e; exact ⟨_, rfl, h⟩
    | succ i => exact ih (i := i) (by simpa using e)
theorem mk (h : ∀ a ∈ as, ∃ b, r a b) : ∃ bs, F2 r as bs := by
  induction as with
  | nil => exact ⟨[], .nil⟩
  | cons a as ih =>
    obtain ⟨b, hb⟩ := h a (List.mem_cons_self ..)
    obtain ⟨bs, hbs⟩ := ih fun a ha => h a (List.mem_cons_of_mem _ ha)
    exact ⟨b :: bs, .cons hb hbs⟩
theorem mapR {f : α → β} (h : ∀ a ∈ as, r a (f a)) : F2 r as (as.map f) := by
  induction as with
  | nil => exact .nil
  | cons a as ih => exact .cons (h a (List.mem_cons_self ..)) (ih fun a ha => h a (List.mem_cons_of_mem _ ha))
theorem ofIx (hl : as.length = bs.length) (h : ∀ (i : Nat) (a : α) (b : β), as[i]? = some a → bs[i]? = some b → r a b) : F2 r as bs := by
  induction as generalizing bs with
  | nil =>
    cases bs with
    | nil => exact .nil
    | cons b bs => simp at hl
  | cons a as ih =>
    cases bs with
    | nil => simp at hl
    | cons b bs => exact .cons (h 0 a b rfl rfl) (ih (by simpa using hl) fun i a b h1 h2 => h (i + 1) a b (by simpa using h1) (by simpa using h2))
theorem mapL {f : γ → α} {cs : List γ} (h : F2 r (cs.map f) bs) : F2 (fun c b => r (f c) b) cs bs := by
  induction cs generalizing bs with
  | nil => cases h; exact .nil
  | cons c cs ih =>
    cases h with
    | cons h t => exact .cons h (ih t)
/-- what each relates to is known of it -/
theorem mapEq {f : α → β} (h : F2 (fun a b => b = f a) as bs) : bs = as.map f := by
  induction h with
  | nil => rfl
  | cons h _ ih => rw [List.map_cons, h, ih]
end F2
/-- the same with lists or tuples in the place of tuples -/
inductive Lk : D → D → Prop
  | str (s : Str) : Lk (.str s) (.str s)
  | int (i : Int) : Lk (.int i) (.int i)
  | seq {ds es : List D} {e : D} (hl : ds.length = es.length) (h : ∀ (i : Nat) (a b : D), ds[i]? = some a → es[i]? = some b → Lk a b) (he : e = .tup es ∨ e = .lst es) : Lk (.tup ds) e
theorem Lk.items {ds : List D} {e : D} (h : Lk (.tup ds) e) : ∃ es, itemsOf e = some es ∧ F2 Lk ds es := by
  cases h with
  | seq hl h he => exact ⟨_, by rcases he with rfl | rfl <;> rfl, F2.ofIx hl h⟩
theorem Lk.ofS {s : Str} {e : D} (h : Lk (.str s) e) : e = .str s := by cases h; rfl
theorem Lk.ofI {i : Int} {e : D} (h : Lk (.int i) e) : e = .int i := by cases h; rfl
theorem Lk.strs {zs : List Str} {es : List D} (h : F2 Lk (zs.map .str) es) : es = zs.map .str := h.mapL.imp (fun _ _ _ h => h.ofS) |>.mapEq
theorem Lk.ints {zs : List Int} {es : List D} (h : F2 Lk (zs.map .int) es) : es = zs.map .int := h.mapL.imp (fun _ _ _ h => h.ofI) |>.mapEq
/-! ### comprehensions of one name, nothing changed -/
theorem unwipe_set {s : Stt} {j : Nat} {a : Sl} (e : s[j]? = some .no) : unwipe s (s.set j a) [j] = s := by
  show (match s[j]? with | some x => (unwipe s (s.set j a) []).set j x | none => unwipe s (s.set j a) []) = s
  rw [e]
  show (s.set j a).set j .no = s
  rw [List.set_set]
  obtain ⟨hlt, he⟩ := List.getElem?_eq_some_iff.mp e
  rw [← he, List.set_getElem_self]
theorem lc_gen {it : Wt.It} {j : Nat} {elt : Ex} {σ : Stt} {P : RV → Stt → Prop} (h : W (it.run σ) fun ds s => s[j]? = some .no ∧ ds.length ≤ 1000 ∧ (∀ t, it.off σ t = t) ∧ ∃ es, F2 (fun d e => W (elt (s.set j (.fz d))) fun r' s' => r'.d = e ∧ s' = s.set j (.fz d)) ds es ∧ P ⟨.lst es, true⟩ s) :
    W (fLc it [j] (.nm j) (fun σ => .ok true σ) elt σ) P := by
  refine w_lc (h.mono ?_)
  rintro ds s ⟨e0, hl, ho, es, hf, hP⟩
  refine ⟨by simp only [clear, e0, Bool.and_true], fun i acc t => acc = es.take i ∧ ∃ a, t = s.set j a ∧ Free a, ⟨rfl, .no, ?_, .no⟩, ?_, ?_⟩
  · obtain ⟨hlt, he⟩ := List.getElem?_eq_some_iff.mp e0
    rw [← he, List.set_getElem_self]
  · rintro i d acc t hd ⟨rfl, a, rfl, fa⟩
    obtain ⟨e, he, hw⟩ := hf.get hd
    have hlt : j < s.length := (List.getElem?_eq_some_iff.mp e0).1
    refine ⟨s.set j (.fz d), ?_, .mk ?_⟩
    · have e1 : wipeS (s.set j a) [j] = s.set j .no := by
        show (s.set j a).set j .no = _
        rw [List.set_set]
      rw [e1, put_free (s := .no) (by rw [List.getElem?_set_self hlt]) .no, List.set_set]
    · rw [if_pos rfl]
      refine hw.mono ?_
      rintro r s' ⟨rfl, rfl⟩
      have hi : i < es.length := (List.getElem?_eq_some_iff.mp he).1
      have hle := hf.len
      refine ⟨by rw [List.length_take]; have := sizeLine_eq; omega, by rw [List.take_add_one, he]; rfl, _, rfl, .fz⟩
  · rintro acc t ⟨rfl, a, rfl, fa⟩
    rw [ho, unwipe_set e0, hf.len, List.take_length]
    exact hP
theorem off_ex {F : Ex} {σ t : Stt} : Wt.It.off (.ex F) σ t = t := rfl
theorem off_fz {i : Nat} {σ t : Stt} {d : D} (e : σ[i]? = some (.fz d)) : Wt.It.off (.sl i) σ t = t := by simp only [Wt.It.off, e]
/-- the first of each row -/
theorem col_spec {α : Type} {g : α → D} {bs : List α} {it : Wt.It} {j : Nat} {σ : Stt} {P : RV → Stt → Prop} (hl : bs.length ≤ 1000)
    (h : W (it.run σ) fun ds s => s[j]? = some .no ∧ (∀ t, it.off σ t = t) ∧ F2 (fun b d => ∃ t, itemsOf d = some (g b :: t)) bs ds ∧ P ⟨.lst (bs.map g), true⟩ s) :
    W (fLc it [j] (.nm j) (fun σ => .ok true σ) (fPrim pIx [.s j, .v (fC (.int 0))]) σ) P := by
  refine lc_gen (h.mono ?_)
  rintro ds s ⟨e0, ho, hf, hP⟩
  refine ⟨e0, by rw [← hf.len]; exact hl, ho, bs.map g, ?_, hP⟩
  have hlt : j < s.length := (List.getElem?_eq_some_iff.mp e0).1
  clear hP h hl
  induction hf with
  | nil => exact .nil
  | cons h t ih =>
    refine .cons ?_ ih
    obtain ⟨t, ht⟩ := h
    refine w_prim ?_
    refine w_s (by rw [List.getElem?_set_self hlt]; rfl) ?_
    refine w_v ?_
    refine w_c ?_
    refine w_nil ?_
    refine ⟨_, _, ?_, pIx_ok (i := 0) ht (atI_nat (j := 0) rfl), rfl, rfl⟩
    simp only [resAll, Pk.res, List.getElem?_set_self hlt]
    rfl
/-! ### sums of some -/
def tot (ns : List Str) (ls : List Int) (zs : List Str) : Int := (((ns.zip ls).filter fun p => decide (p.1 ∈ zs)).map (·.2)).sum
theorem tot_sub : ∀ {zs ns : List Str} {ls : List Int}, zs.Sublist ns → ns.Nodup → ls.length = ns.length → (zs.map fun z => ls.getD (ns.idxOf z) 0).sum = tot ns ls zs := by
  intro zs ns ls h
  induction h generalizing ls with
  | slnil => intro _ _; rfl
  | @cons zs ns n h ih =>
    intro hd hl
    rw [List.nodup_cons] at hd
    cases ls with
    | nil => simp at hl
    | cons l ls =>
      have hn : n ∉ zs := fun hz => hd.1 (h.subset hz)
      have e1 : (zs.map fun z => (l :: ls).getD ((n :: ns).idxOf z) 0) = zs.map fun z => ls.getD (ns.idxOf z) 0 := by
        refine List.map_congr_left fun z hz => ?_
        have : n ≠ z := fun e => hn (e ▸ hz)
        rw [List.idxOf_cons, beq_false_of_ne this]; rfl
      rw [e1, ih hd.2 (by simpa using hl)]
      unfold tot
      rw [List.zip_cons_cons, List.filter_cons_of_neg (by simpa using hn)]
  | @cons_cons zs ns n h ih =>
    intro hd hl
    rw [List.nodup_cons] at hd
    cases ls with
    | nil => simp at hl
    | cons l ls =>
      have hn : n ∉ zs := fun hz => hd.1 (h.subset hz)
      have e1 : (zs.map fun z => (l :: ls).getD ((n :: ns).idxOf z) 0) = zs.map fun z => ls.getD (ns.idxOf z) 0 := by
        refine List.map_congr_left fun z hz => ?_
        have : n ≠ z := fun e => hn (e ▸ hz)
        rw [List.idxOf_cons, beq_false_of_ne this]; rfl
      rw [List.map_cons, List.idxOf_cons_self, List.sum_cons, e1, ih hd.2 (by simpa using hl)]
      unfold tot
      rw [List.zip_cons_cons, List.filter_cons_of_pos (by simp), List.map_cons, List.sum_cons]
      have e2 : (ns.zip ls).filter (fun p => decide (p.1 ∈ zs)) = (ns.zip ls).filter fun p => decide (p.1 ∈ n :: zs) := by
        refine List.filter_congr fun p hp => ?_
        have hp1 : p.1 ∈ ns := (List.of_mem_zip (a := p.1) (b := p.2) hp).1
        have : p.1 ≠ n := fun e => hd.1 (e ▸ hp1)
        simp [this]
      rw [e2]
      rfl
end L26
set_option autoImplicit false
set_option Elab.async false
set_option linter.all false
set_option maxRecDepth 100000
set_option pp.maxSteps 500
set_option pp.deepTerms false
namespace L26
open PySem L2 Wt
/-! ### folded -/
theorem ints_lay : ∀ ns : List Int, plains (ns.map .int) = true ∧ PyData.canLayAll0 (toPs (ns.map .int)) = true ∧ PyData.depthAll (toPs (ns.map .int)) ≤ 0
  | [] => ⟨rfl, rfl, Nat.le_refl _⟩
  | n :: ns => by
    obtain ⟨h1, h2, h3⟩ := ints_lay ns
    refine ⟨?_, ?_, Nat.max_le.mpr ⟨Nat.le_refl _, h3⟩⟩
    · show (true && plains (ns.map .int)) = true
      rw [h1]; rfl
    · show (true && PyData.canLayAll0 (toPs (ns.map .int))) = true
      rw [h2]; rfl
theorem shp_ints (ns : List Int) : shp (.lst (ns.map .int)) = true := by
  obtain ⟨h1, h2, h3⟩ := ints_lay ns
  show (plains (ns.map .int) && (PyData.canLayAll0 (toPs (ns.map .int)) && decide (PyData.depthAll (toPs (ns.map .int)) + 1 ≤ 64))) = true
  rw [h1, h2, decide_eq_true (by omega)]; rfl
theorem enumD_get : ∀ {l : List D} {k i : Nat} {d : D}, (enumD k l)[i]? = some d → ∃ x, l[i]? = some x ∧ d = .tup [.int ((k + i : Nat) : Int), x]
  | [], k, i, d, h => by simp [enumD] at h
  | x :: l, k, 0, d, h => by
    simp only [enumD, List.getElem?_cons_zero, Option.some.injEq] at h
    exact ⟨x, rfl, h.symm⟩
  | x :: l, k, i + 1, d, h => by
    simp only [enumD, List.getElem?_cons_succ] at h
    obtain ⟨y, h1, h2⟩ := enumD_get h
    exact ⟨y, by simpa using h1, by rw [h2, show k + 1 + i = k + (i + 1) by omega]⟩
theorem put_tp2 {i j : Nat} {d e : D} {σ σ1 σ2 : Stt} (h1 : Tg.put (.nm i) d σ = some σ1) (h2 : Tg.put (.nm j) e σ1 = some σ2) : Tg.put (.tp [.nm i, .nm j]) (.tup [d, e]) σ = some σ2 := by
  simp only [Tg.put.eq_2, Tg.puts, h1, h2]
theorem ixN_ok {n j : Nat} (h : j < n) : ixN n (j : Int) = some j := by
  unfold ixN
  rw [if_pos (by omega), if_pos (by omega)]; simp
set_option maxHeartbeats 2000000 in
theorem folded_spec (ns : List Int) (hn : ns.length ≤ 63) : Wo (G_l_folded [.lst (ns.map .int), .int 3]) fun v fr refs => ∃ cs : List Int, v = .lst (cs.map .int) ∧ refs = [] ∧ cs ≠ [] ∧ cs.length ≤ 3 := by
  have hz := sizeLine_eq
  have ecut : cutD (ns.map .int) none (some 3) = (ns.take 3).map .int := by
    unfold cutD
    have e : HT.sIx (ns.map D.int).length (ns.map D.int).length (some 3) = min 3 (ns.map D.int).length := HT.sIx_nat (n := (ns.map D.int).length) (d := (ns.map D.int).length) (k := 3)
    rw [e, HT.sIx_none, List.drop_zero, Nat.sub_zero, List.map_take, List.length_map]
    rcases Nat.le_total 3 ns.length with h | h
    · rw [Nat.min_eq_left h]
    · rw [Nat.min_eq_right h, List.take_of_length_le (by rw [List.length_map]; omega), List.take_of_length_le (by rw [List.length_map]; omega)]
  refine w_def (σ := [.fz (.lst (ns.map .int)), .fz (.int 3), .no, .no, .no]) rfl ?_
  unfold F_l_folded
  refine s_seq ?_
  refine s_set ?_
  refine w_prim ?_
  refine w_v ?_
  refine w_sl ?_
  refine w_as rfl ?_
  refine w_bno ?_
  refine w_bat ?_
  refine w_as rfl ?_
  refine ⟨_, rfl, ?_⟩
  refine ⟨_, _, rfl, rfl, ?_⟩
  refine w_nil ?_
  rw [ecut]
  refine ⟨_, _, rfl, rfl, ?_⟩
  refine ⟨_, rfl, ?_⟩
  refine s_seq ?_
  refine s_for ?_
  refine i_enum ?_
  refine w_sl ?_
  refine w_as rfl ?_
  refine w_bat ?_
  refine w_as rfl ?_
  refine ⟨_, rfl, ?_⟩
  refine w_bat ?_
  refine w_av ?_
  refine w_c ?_
  refine ⟨_, rfl, ?_⟩
  refine ⟨_, _, rfl, rfl, ?_⟩
  refine ⟨_, rfl, ?_⟩
  refine ⟨fun i s => ∃ (cs : List Int) (a b : Sl), s = [.fz (.lst (ns.map .int)), .fz (.int 3), .ow (.lst (cs.map .int)), a, b] ∧ cs.length = (ns.take 3).length ∧ Free a ∧ Free b, ⟨ns.take 3, _, _, rfl, rfl, .no, .no⟩, ?_, ?_⟩
  · rintro i d s hd ⟨cs, a, b, rfl, hcl, fa, fb⟩
    obtain ⟨x, hx, rfl⟩ := enumD_get hd
    have hx2 : x ∈ (ns.map D.int).drop (HT.sIx (ns.map D.int).length 0 (some 3)) := List.mem_of_mem_take (List.mem_of_getElem? hx)
    have e : HT.sIx (ns.map D.int).length 0 (some 3) = min 3 (ns.map D.int).length := HT.sIx_nat (n := (ns.map D.int).length) (d := 0) (k := 3)
    rw [e] at hx2
    have h3 : 3 < ns.length := by
      have := List.length_pos_of_mem hx2
      rw [List.length_drop, List.length_map] at this
      omega
    obtain ⟨c, _, rfl⟩ := List.mem_map.mp (List.mem_of_mem_drop hx2)
    have hi : i < 63 := by
      have h1 := (List.getElem?_eq_some_iff.mp hx).1
      have h2 : (cutD (ns.map D.int) (some 3) (some 63)).length ≤ (ns.map D.int).length := Nat.le_trans (List.length_take_le' ..) (by rw [List.length_drop]; omega)
      rw [List.length_map] at h2
      omega
    rw [List.length_take, Nat.min_eq_left (by omega)] at hcl
    refine ⟨_, put_tp2 (put_free rfl fa) (put_free rfl fb), ?_⟩
    have hm : (((0 + i : Nat) : Int)) % 3 = ((i % 3 : Nat) : Int) := by omega
    have hlt : i % 3 < cs.length := by omega
    refine s_seq ?_
    refine s_put ?_
    refine w_prim ?_
    refine w_v ?_
    refine w_prim ?_
    refine w_s rfl ?_
    refine w_v ?_
    refine w_prim ?_
    refine w_s rfl ?_
    refine w_s rfl ?_
    refine w_nil ?_
    refine ⟨_, _, rfl, mod_ok (by omega), ?_⟩
    refine w_nil ?_
    rw [hm]
    refine ⟨_, _, rfl, pIx_ok rfl (atI_nat (v := .int cs[i % 3]) (by rw [List.getElem?_map, List.getElem?_eq_getElem hlt]; rfl)), ?_⟩
    refine w_v ?_
    refine w_prim ?_
    refine w_s rfl ?_
    refine w_v ?_
    refine w_prim ?_
    refine w_s rfl ?_
    refine w_v ?_
    refine w_c ?_
    refine w_nil ?_
    refine ⟨_, _, rfl, rfl, ?_⟩
    refine w_nil ?_
    refine ⟨_, _, rfl, mul_ok (.inr (sm_of (by omega) (by omega))), ?_⟩
    refine w_nil ?_
    refine ⟨_, _, rfl, rfl, ?_⟩
    refine p_k ⟨_, rfl, ?_⟩
    refine w_prim ?_
    refine w_s rfl ?_
    refine w_s rfl ?_
    refine w_nil ?_
    refine ⟨_, _, rfl, mod_ok (by omega), ?_⟩
    rw [hm]
    refine ⟨_, _, i % 3, rfl, rfl, ixN_ok (by rw [List.length_map]; exact hlt), .mk ?_⟩
    refine s_nil ?_
    refine ⟨cs.set (i % 3) _, _, _, by rw [List.map_set]; rfl, by rw [List.length_set, hcl, List.length_take, Nat.min_eq_left (by omega)], .fz, .fz⟩
  · rintro s ⟨cs, a, b, rfl, hcl, fa, fb⟩
    have hc3 : cs.length ≤ 3 := by rw [hcl, List.length_take]; omega
    refine s_seq ?_
    refine s_ret ?_
    refine w_if ?_
    refine t_bl ?_
    refine w_prim ?_
    refine w_s rfl ?_
    refine w_v ?_
    refine w_lst ?_
    refine w_dnil ?_
    refine ⟨Nat.zero_le _, ?_⟩
    refine w_nil ?_
    refine ⟨_, ⟨.bl (!eqv (.lst (cs.map .int)) (.lst [])), false⟩, rfl, ?_, _, rfl, ?_⟩
    · refine if_pos ?_
      show (scalD (.lst (cs.map .int)) (.lst []) || (shp (.lst (cs.map .int)) && shp (.lst (([] : List Int).map .int)))) = true
      rw [shp_ints cs, shp_ints []]
      exact Bool.or_true _
    cases cs with
    | nil =>
      refine ifF (by decide) ?_
      refine w_lst ?_
      refine w_dcons ?_
      refine w_c ?_
      refine w_dnil ?_
      refine ⟨by show 1 ≤ sizeLine; omega, ?_⟩
      exact ⟨[], rfl, [0], rfl, rfl, by simp, by simp⟩
    | cons c cs =>
      refine ifT rfl ?_
      refine w_varO rfl ?_
      exact ⟨[], rfl, c :: cs, rfl, rfl, by simp, hc3⟩
end L26
set_option autoImplicit false
set_option Elab.async false
set_option linter.all false
set_option maxRecDepth 100000
set_option pp.maxSteps 500
set_option pp.deepTerms false
namespace L26
open PySem L2 Wt
/-! ### data of any kind, bounded -/
mutual
def finB (B : Nat) : D → Bool
  | .non | .bl _ => true
  | .int i => decide (i.natAbs ≤ B)
  | .str s => s.cps.toList.all fun c => decide (c < 128)
  | .tup ds | .lst ds => finsB B ds
  | _ => false
def finsB (B : Nat) : List D → Bool
  | [] => true
  | d :: ds => finB B d && finsB B ds
end
theorem finsB_iff {B : Nat} : ∀ {ds : List D}, finsB B ds = true ↔ ∀ d ∈ ds, finB B d = true
  | [] => by simp [finsB]
  | d :: ds => by rw [finsB, Bool.and_eq_true, finsB_iff (ds := ds), List.forall_mem_cons]
theorem depths_iff {k : Nat} : ∀ {ds : List D}, PyData.depthAll (toPs ds) ≤ k ↔ ∀ d ∈ ds, (toP d).depth ≤ k
  | [] => by simp [toPs, PyData.depthAll]
  | d :: ds => by
    rw [List.forall_mem_cons, ← depths_iff (ds := ds)]
    exact Nat.max_le
theorem bulks_sum : ∀ ds : List D, PyData.bulkAll (toPs ds) = (ds.map fun d => (toP d).bulk + 1).sum
  | [] => rfl
  | d :: ds => by rw [List.map_cons, List.sum_cons, ← bulks_sum ds]; rfl
structure Fine (B k n : Nat) (d : D) : Prop where
  fi : finB B d = true
  dp : (toP d).depth ≤ k
  bk : (toP d).bulk ≤ n
structure Fines (B k n : Nat) (ds : List D) : Prop where
  fi : ∀ d ∈ ds, finB B d = true
  dp : ∀ d ∈ ds, (toP d).depth ≤ k
  bk : (ds.map fun d => (toP d).bulk + 1).sum ≤ n
mutual
theorem finB_mono {B C : Nat} (h : B ≤ C) : ∀ d : D, finB B d = true → finB C d = true
  | .non, _ => rfl
  | .bl _, _ => rfl
  | .int i, e => decide_eq_true (Nat.le_trans (of_decide_eq_true e) h)
  | .str _, e => e
  | .tup ds, e => finsB_mono h ds e
  | .lst ds, e => finsB_mono h ds e
  | .dct _, e => e
  | .set _, e => e
  | .fn _, e => e
theorem finsB_mono {B C : Nat} (h : B ≤ C) : ∀ ds : List D, finsB B ds = true → finsB C ds = true
  | [], _ => rfl
  | d :: ds, e => by
    rw [finsB, Bool.and_eq_true] at e ⊢
    exact ⟨finB_mono h d e.1, finsB_mono h ds e.2⟩
end
theorem Fine.mono {B C j k m n : Nat} {d : D} (h : Fine B j m d) (hB : B ≤ C) (hk : j ≤ k) (hn : m ≤ n) : Fine C k n d := ⟨finB_mono hB d h.fi, Nat.le_trans h.dp hk, Nat.le_trans h.bk hn⟩
theorem Fines.mono {B C j k m n : Nat} {d : List D} (h : Fines B j m d) (hB : B ≤ C) (hk : j ≤ k) (hn : m ≤ n) : Fines C k n d := ⟨fun x hx => finB_mono hB x (h.fi x hx), fun x hx => Nat.le_trans (h.dp x hx) hk, Nat.le_trans h.bk hn⟩
theorem Fine.tup {B k n : Nat} {ds : List D} (h : Fines B k n ds) : Fine B (k + 1) n (.tup ds) := ⟨finsB_iff.mpr h.fi, Nat.succ_le_succ (depths_iff.mpr h.dp), by have := h.bk; rw [← bulks_sum] at this; exact this⟩
theorem Fine.lst {B k n : Nat} {ds : List D} (h : Fines B k n ds) : Fine B (k + 1) n (.lst ds) := ⟨finsB_iff.mpr h.fi, Nat.succ_le_succ (depths_iff.mpr h.dp), by have := h.bk; rw [← bulks_sum] at this; exact this⟩
theorem Fine.items {B k n : Nat} {d : D} {ds : List D} (h : Fine B k n d) (e : itemsOf d = some ds) : ∃ j, k = j + 1 ∧ Fines B j n ds := by
  obtain ⟨f, dp, bk⟩ := h
  have key : PyData.depthAll (toPs ds) + 1 ≤ k ∧ PyData.bulkAll (toPs ds) ≤ n ∧ finsB B ds = true := by
    cases d with
    | tup xs => cases e; exact ⟨dp, bk, f⟩
    | lst xs => cases e; exact ⟨dp, bk, f⟩
    | _ => cases e
  refine ⟨k - 1, by omega, finsB_iff.mp key.2.2, depths_iff.mp (by omega), by rw [← bulks_sum]; exact key.2.1⟩
theorem Fines.nil {B k n : Nat} : Fines B k n [] := ⟨by simp, by simp, by simp⟩
theorem Fines.cons {B k a b n : Nat} {d : D} {ds : List D} (h : Fine B k a d) (t : Fines B k b ds) (hn : a + 1 + b ≤ n) : Fines B k n (d :: ds) where
  fi := List.forall_mem_cons.mpr ⟨h.fi, t.fi⟩
  dp := List.forall_mem_cons.mpr ⟨h.dp, t.dp⟩
  bk := by
    have := h.bk
    have := t.bk
    rw [List.map_cons, List.sum_cons]
    omega
theorem Fines.append {B k a b n : Nat} {ds es : List D} (h : Fines B k a ds) (t : Fines B k b es) (hn : a + b ≤ n) : Fines B k n (ds ++ es) where
  fi := fun d hd => (List.mem_append.mp hd).elim (h.fi d) (t.fi d)
  dp := fun d hd => (List.mem_append.mp hd).elim (h.dp d) (t.dp d)
  bk := by
    have := h.bk
    have := t.bk
    rw [List.map_append, List.sum_append]
    omega
theorem sum_sub {xs ys : List Nat} (h : xs.Sublist ys) : xs.sum ≤ ys.sum := by
  induction h with
  | slnil => exact Nat.le_refl _
  | cons a _ ih => rw [List.sum_cons]; omega
  | cons_cons a _ ih => rw [List.sum_cons, List.sum_cons]; omega
theorem Fines.sub {B k n : Nat} {ds es : List D} (h : Fines B k n ds) (s : es.Sublist ds) : Fines B k n es := ⟨fun d hd => h.fi d (s.subset hd), fun d hd => h.dp d (s.subset hd), Nat.le_trans (sum_sub (s.map _)) h.bk⟩
theorem Fines.perm {B k n : Nat} {ds es : List D} (h : Fines B k n ds) (s : es.Perm ds) : Fines B k n es := ⟨fun d hd => h.fi d (s.mem_iff.mp hd), fun d hd => h.dp d (s.mem_iff.mp hd), by rw [(s.map _).sum_nat]; exact h.bk⟩
theorem mem_sum {α : Type} {f : α → Nat} {x : α} : ∀ {xs : List α}, x ∈ xs → f x ≤ (xs.map f).sum
  | y :: ys, h => by
    rw [List.map_cons, List.sum_cons]
    rcases List.mem_cons.mp h with rfl | h
    · omega
    · have := mem_sum (f := f) h
      omega
theorem Fines.get {B k n : Nat} {ds : List D} {d : D} (h : Fines B k n ds) (m : d ∈ ds) : Fine B k (n - 1) d ∧ 1 ≤ n := by
  have h1 := mem_sum (f := fun d : D => (toP d).bulk + 1) m
  have h2 := h.bk
  have h3 : (toP d).bulk + 1 ≤ n := Nat.le_trans h1 h2
  exact ⟨⟨h.fi d m, h.dp d m, by omega⟩, by omega⟩
theorem len_sum {α : Type} {f : α → Nat} : ∀ xs : List α, xs.length ≤ (xs.map fun x => f x + 1).sum
  | [] => Nat.le_refl _
  | x :: xs => by
    have := len_sum (f := f) xs
    rw [List.map_cons, List.sum_cons, List.length_cons]
    omega
theorem Fines.len {B k n : Nat} {ds : List D} (h : Fines B k n ds) : ds.length ≤ n := Nat.le_trans (len_sum ds) h.bk
theorem set_sum {α : Type} {f : α → Nat} {x y : α} : ∀ {xs : List α} {i : Nat}, xs[i]? = some y → ((xs.set i x).map f).sum + f y = (xs.map f).sum + f x
  | [], i, h => by simp at h
  | z :: zs, 0, h => by
    simp at h
    subst h
    simp only [List.set_cons_zero, List.map_cons, List.sum_cons]
    omega
  | z :: zs, i + 1, h => by
    have := set_sum (f := f) (x := x) (xs := zs) (i := i) (by simpa using h)
    simp only [List.set_cons_succ, List.map_cons, List.sum_cons]
    omega
theorem Fines.set {B k n m : Nat} {ds : List D} {i : Nat} {d e : D} (h : Fines B k n ds) (hi : ds[i]? = some e) (hd : Fine B k m d) : Fines B k (n + m) (ds.set i d) where
  fi := fun x hx => (List.mem_or_eq_of_mem_set hx).elim (h.fi x) fun q => q ▸ hd.fi
  dp := fun x hx => (List.mem_or_eq_of_mem_set hx).elim (h.dp x) fun q => q ▸ hd.dp
  bk := by
    have h1 := set_sum (f := fun d : D => (toP d).bulk + 1) (x := d) hi
    have h2 := h.bk
    have h3 := hd.bk
    omega
mutual
theorem finB_plain {B : Nat} : ∀ d : D, finB B d = true → plain d = true
  | .non, _ => rfl
  | .bl _, _ => rfl
  | .int _, _ => rfl
  | .str _, _ => rfl
  | .tup ds, e => finsB_plain ds e
  | .lst ds, e => finsB_plain ds e
  | .dct _, e => by cases e
  | .set _, e => by cases e
  | .fn _, e => by cases e
theorem finsB_plain {B : Nat} : ∀ ds : List D, finsB B ds = true → plains ds = true
  | [], _ => rfl
  | d :: ds, e => by
    rw [finsB, Bool.and_eq_true] at e
    rw [plains, finB_plain d e.1, finsB_plain ds e.2]; rfl
end
theorem int_short {B : Nat} (hB : B < 10 ^ 12) {i : Int} (h : i.natAbs ≤ B) : decide (i.natAbs.log2 < 1920) = true ∧ decide ((PyData.shown (.int i)).length ≤ 13) = true := by
  have h1 : i.natAbs < 10 ^ 12 := Nat.lt_of_le_of_lt h hB
  refine ⟨decide_eq_true ?_, decide_eq_true ?_⟩
  · by_cases c : i.natAbs = 0
    · rw [c]; decide
    · exact (Nat.log2_lt c).mpr (Nat.lt_trans h1 (by decide))
  · have := int_text_length_le10 (k := 12) (by decide) h1
    show (Str.ofString (toString i)).length ≤ 13
    rw [ofString_length]; omega
mutual
theorem finB_show {B : Nat} (hB : B < 10 ^ 12) : ∀ d : D, finB B d = true → (toP d).showable = true ∧ (toP d).leavesShort 13 = true
  | .non, _ => ⟨rfl, rfl⟩
  | .bl _, _ => ⟨rfl, rfl⟩
  | .int i, e => int_short hB (of_decide_eq_true e)
  | .str s, e => ⟨rfl, by
      show (s.cps.toList.all fun c => decide (c < 16 ^ 8)) = true
      rw [List.all_eq_true]
      intro c hc
      have := of_decide_eq_true (List.all_eq_true.mp (show (s.cps.toList.all fun c => decide (c < 128)) = true from e) c hc)
      exact decide_eq_true (by omega)⟩
  | .tup ds, e => finsB_show hB ds e
  | .lst ds, e => finsB_show hB ds e
  | .dct _, e => by cases e
  | .set _, e => by cases e
  | .fn _, e => by cases e
theorem finsB_show {B : Nat} (hB : B < 10 ^ 12) : ∀ ds : List D, finsB B ds = true → PyData.showableAll (toPs ds) = true ∧ PyData.leavesShortAll 13 (toPs ds) = true
  | [], _ => ⟨rfl, rfl⟩
  | d :: ds, e => by
    rw [finsB, Bool.and_eq_true] at e
    have h1 := finB_show hB d e.1
    have h2 := finsB_show hB ds e.2
    constructor
    · show ((toP d).showable && PyData.showableAll (toPs ds)) = true
      rw [h1.1, h2.1]; rfl
    · show ((toP d).leavesShort 13 && PyData.leavesShortAll 13 (toPs ds)) = true
      rw [h1.2, h2.2]; rfl
end
theorem repr_fine {B n : Nat} {ds : List D} (hB : B < 10 ^ 12) (h : Fine B 60 n (.lst ds)) (hn : n ≤ 1000000) : ∃ s, pRepr [.lst ds] = some ⟨.str s, false⟩ := by
  refine ⟨(toP (.lst ds)).shown, if_pos ?_⟩
  obtain ⟨h1, h2⟩ := finB_show hB _ h.fi
  have h5 : (toP (.lst ds)).shown.length ≤ sizeLine := PyData.shown_fits_bulk (B := 13) (by decide) (by decide) h2 (Nat.le_trans h.bk (by omega))
  rw [finB_plain _ h.fi, h1, decide_eq_true h.dp, decide_eq_true h5]; rfl
theorem okS_fin {B n : Nat} {s : Str} (h : okS n s) : Fine B 0 n (.str s) := ⟨by
  show (s.cps.toList.all fun c => decide (c < 128)) = true
  rw [List.all_eq_true]
  intro c hc
  have := h.2 c hc
  exact decide_eq_true (by omega), Nat.le_refl _, h.1⟩
theorem int_fin {B k : Nat} {i : Int} (h : i.natAbs ≤ B) : Fine B k 0 (.int i) := ⟨decide_eq_true h, Nat.zero_le _, Nat.le_refl _⟩
/-- the sizes of what is laid -/
def wid : Nat → Nat
  | 0 => 8
  | k + 1 => 6 * (wid k + 1)
theorem wid_ge : ∀ k, 8 ≤ wid k
  | 0 => Nat.le_refl _
  | k + 1 => by have := wid_ge k; show 8 ≤ 6 * (wid k + 1); omega
theorem Lay.fine {k : Nat} {d : D} (h : Lay k d) : Fine 1000 k (wid k) d := by
  induction h with
  | str h => exact (okS_fin h).mono (Nat.le_refl _) (Nat.zero_le _) (wid_ge _)
  | int h0 h1 => exact (int_fin (k := 0) (by omega)).mono (Nat.le_refl _) (Nat.zero_le _) (Nat.zero_le _)
  | @tup k ds hl h ih =>
    refine .tup ⟨fun d hd => (ih d hd).fi, fun d hd => (ih d hd).dp, ?_⟩
    have key : ∀ es : List D, (∀ d ∈ es, (toP d).bulk ≤ wid k) → (es.map fun d => (toP d).bulk + 1).sum ≤ es.length * (wid k + 1) := by
      intro es
      induction es with
      | nil => intro _; simp
      | cons e es ih =>
        intro he
        have h1 := ih fun d hd => he d (List.mem_cons_of_mem _ hd)
        have h2 := he e (List.mem_cons_self ..)
        rw [List.map_cons, List.sum_cons, List.length_cons, Nat.succ_mul]
        omega
    exact Nat.le_trans (key ds fun d hd => (ih d hd).bk) (Nat.mul_le_mul_right _ hl)
end L26
set_option autoImplicit false
set_option Elab.async false
set_option linter.all false
set_option maxRecDepth 100000
set_option pp.maxSteps 500
set_option pp.deepTerms false
namespace L26
open PySem L2 Wt
/-! ### kinds of things -/
def isTup : D → Bool
  | .tup _ => true
  | _ => false
def isLs : D → Bool
  | .lst _ => true
  | _ => false
def isS : D → Bool
  | .str _ => true
  | _ => false
def isI : D → Bool
  | .int _ | .bl _ => true
  | _ => false
def isB : D → Bool
  | .bl _ => true
  | _ => false
section
variable {B : Nat} {d : D}
theorem isi_tuple (h : finB B d = true) : pIsi ["tuple"] [d] = some ⟨.bl (isTup d), false⟩ := by cases d <;> first | rfl | cases h
theorem isi_list (h : finB B d = true) : pIsi ["list"] [d] = some ⟨.bl (isLs d), false⟩ := by cases d <;> first | rfl | cases h
theorem isi_lt (h : finB B d = true) : pIsi ["list", "tuple"] [d] = some ⟨.bl (isTup d || isLs d), false⟩ := by cases d <;> first | rfl | cases h
theorem isi_str (h : finB B d = true) : pIsi ["str"] [d] = some ⟨.bl (isS d), false⟩ := by cases d <;> first | rfl | cases h
theorem isi_int (h : finB B d = true) : pIsi ["int"] [d] = some ⟨.bl (isI d), false⟩ := by cases d <;> first | rfl | cases h
theorem isi_bool (h : finB B d = true) : pIsi ["bool"] [d] = some ⟨.bl (isB d), false⟩ := by cases d <;> first | rfl | cases h
theorem tup_of (h : isTup d = true) : ∃ ds, d = .tup ds := by cases d <;> first | exact ⟨_, rfl⟩ | cases h
theorem str_of (h : isS d = true) : ∃ s, d = .str s := by cases d <;> first | exact ⟨_, rfl⟩ | cases h
theorem lst_of (h : isLs d = true) : ∃ ds, d = .lst ds := by cases d <;> first | exact ⟨_, rfl⟩ | cases h
end
theorem flat_strs : ∀ zs : List Str, flatDs (zs.map .str) = true
  | [] => rfl
  | z :: zs => by
    rw [List.map_cons]
    show (true && flatDs (zs.map .str)) = true
    rw [flat_strs zs]; rfl
theorem any_strs {x : Str} : ∀ zs : List Str, ((zs.map D.str).any fun y => eqv y (.str x)) = decide (x ∈ zs)
  | [] => by simp
  | z :: zs => by
    rw [List.map_cons, List.any_cons, any_strs zs]
    show ((z == x) || _) = _
    rw [Bool.eq_iff_iff, Bool.or_eq_true, beq_iff_eq, decide_eq_true_iff, decide_eq_true_iff, List.mem_cons]
    exact ⟨fun h => h.imp Eq.symm id, fun h => h.imp Eq.symm id⟩
theorem inD_ok {x : Str} {M : D} {zs : List Str} (h : itemsOf M = some (zs.map .str)) : inD (.str x) M = some (decide (x ∈ zs)) := by
  cases M with
  | lst ds =>
    cases h
    show (if (true && flatDs (zs.map .str)) || _ then some ((zs.map D.str).any fun y => eqv y (.str x)) else none) = _
    rw [flat_strs, any_strs]; rfl
  | tup ds =>
    cases h
    show (if (true && flatDs (zs.map .str)) || _ then some ((zs.map D.str).any fun y => eqv y (.str x)) else none) = _
    rw [flat_strs, any_strs]; rfl
  | _ => cases h
theorem in_ok {x : Str} {M : D} {zs : List Str} (h : itemsOf M = some (zs.map .str)) : pIn [.str x, M] = some ⟨.bl (decide (x ∈ zs)), false⟩ := by
  show (inD (.str x) M).map _ = _
  rw [inD_ok h]; rfl
theorem notIn_ok {x : Str} {M : D} {zs : List Str} (h : itemsOf M = some (zs.map .str)) : pNotIn [.str x, M] = some ⟨.bl (!decide (x ∈ zs)), false⟩ := by
  show (inD (.str x) M).map _ = _
  rw [inD_ok h]; rfl
theorem index_ok {z : Str} {ns : List Str} (h : z ∈ ns) : pIndex [.lst (ns.map .str), .str z] = some ⟨.int ((ns.idxOf z : Nat) : Int), false⟩ := by
  have e : (ns.map D.str).findIdx? (fun y => eqv y (.str z)) = some (ns.idxOf z) := by
    rw [List.findIdx?_map, List.findIdx?_eq_some_iff_findIdx_eq]
    refine ⟨List.idxOf_lt_length_of_mem h, ?_⟩
    rfl
  show (if (true && flatDs (ns.map .str)) = true then match (ns.map D.str).findIdx? (fun y => eqv y (.str z)) with
      | some j => some (⟨.int (j : Nat), false⟩ : RV)
      | none => none
    else none) = _
  rw [flat_strs, e]; rfl
theorem Wo.to {o : Out} {v : D} {fr : Bool} (h : Wo o fun v' fr' refs => v' = v ∧ fr' = fr ∧ refs = []) : o = .ok v fr [] := by
  obtain ⟨_, _, _, e, rfl, rfl, rfl⟩ := h.eq
  exact e
theorem Wo.by {o : Out} {v : D} {fr : Bool} {P : D → Bool → List D → Prop} (e : o = .ok v fr []) (h : P v fr []) : Wo o P := by
  rw [e]; exact .mk h
theorem intsOf_map : ∀ ns : List Int, intsOf (ns.map .int) = some ns
  | [] => rfl
  | n :: ns => by
    rw [List.map_cons]
    show (intsOf (ns.map .int)).map (n :: ·) = _
    rw [intsOf_map ns]; rfl
theorem blsOf_map : ∀ ns : List Bool, blsOf (ns.map .bl) = some ns
  | [] => rfl
  | n :: ns => by
    rw [List.map_cons]
    show (blsOf (ns.map .bl)).map (n :: ·) = _
    rw [blsOf_map ns]; rfl
/-- those for which the test holds -/
theorem lc_filt {it : Wt.It} {j : Nat} {ifs : Te} {elt : Ex} {σ : Stt} {P : RV → Stt → Prop} (p : D → Bool) (g : D → D) (h : W (it.run σ) fun ds s => s[j]? = some .no ∧ ds.length ≤ 1000 ∧ (∀ t, Wt.It.off it σ t = t) ∧
      (∀ d ∈ ds, W (ifs (s.set j (.fz d))) fun t s' => t = p d ∧ s' = s.set j (.fz d)) ∧ (∀ d ∈ ds, p d = true → W (elt (s.set j (.fz d))) fun r s' => r.d = g d ∧ s' = s.set j (.fz d)) ∧ P ⟨.lst ((ds.filter p).map g), true⟩ s) :
    W (fLc it [j] (.nm j) ifs elt σ) P := by
  refine w_lc (h.mono ?_)
  rintro ds s ⟨e0, hl, ho, hi, he, hP⟩
  have hlt : j < s.length := (List.getElem?_eq_some_iff.mp e0).1
  refine ⟨by simp only [clear, e0, Bool.and_true], fun i acc t => acc = ((ds.take i).filter p).map g ∧ ∃ a, t = s.set j a ∧ Free a, ⟨rfl, .no, ?_, .no⟩, ?_, ?_⟩
  · obtain ⟨hlt, he⟩ := List.getElem?_eq_some_iff.mp e0
    rw [← he, List.set_getElem_self]
  · rintro i d acc t hd ⟨rfl, a, rfl, fa⟩
    have hm := List.mem_of_getElem? hd
    refine ⟨s.set j (.fz d), ?_, ?_⟩
    · have e1 : wipeS (s.set j a) [j] = s.set j .no := by
        show (s.set j a).set j .no = _
        rw [List.set_set]
      rw [e1, put_free (s := .no) (by rw [List.getElem?_set_self hlt]) .no, List.set_set]
    · refine (hi d hm).mono ?_
      rintro t s' ⟨et, rfl⟩
      have htk : ds.take (i + 1) = ds.take i ++ [d] := by rw [List.take_add_one, hd]; rfl
      by_cases c : p d = true
      · rw [if_pos (by rw [et]; exact c)]
        refine (he d hm c).mono ?_
        rintro r s' ⟨er, rfl⟩
        have h1 := List.length_filter_le p (ds.take i)
        rw [List.length_take] at h1
        refine ⟨lenLt (by rw [List.length_map]; omega), ?_, _, rfl, .fz⟩
        rw [htk, List.filter_append, List.map_append, er, List.filter_cons_of_pos c]; rfl
      · rw [if_neg (by rw [et]; exact c)]
        refine ⟨?_, _, rfl, .fz⟩
        rw [htk, List.filter_append, List.map_append, List.filter_cons_of_neg c]; simp
  · rintro acc t ⟨rfl, a, rfl, fa⟩
    rw [ho, unwipe_set e0, List.take_length]
    exact hP
theorem find_idx {p : Str} : ∀ ps : List Pt, ps[(ps.map Pt.nm).idxOf p]? = ps.find? fun q => q.nm == p
  | [] => rfl
  | q :: ps => by
    rw [List.map_cons, List.idxOf_cons, List.find?_cons]
    cases h : q.nm == p
    · exact find_idx ps
    · rfl
end L26
set_option autoImplicit false
set_option Elab.async false
set_option linter.all false
set_option maxRecDepth 100000
set_option pp.maxSteps 500
set_option pp.deepTerms false
namespace L26
open PySem L2 Wt
/-! ### works, as k26 asks them -/
def within (lo hi : Int) : D → Bool
  | .int i => decide (lo ≤ i) && decide (i ≤ hi)
  | _ => false
def modesOf (ps : List Pt) (p : Str) : List Str := ((ps.find? fun q => q.nm == p).map Pt.modes).getD []
theorem no_true {p : Prop} : ¬ (false = true) := Bool.false_ne_true
mutual
theorem finB_lay {B : Nat} : ∀ d : D, finB B d = true → PyData.canLay0 (toP d) = true
  | .non, _ => rfl
  | .bl _, _ => rfl
  | .int _, _ => rfl
  | .str s, e => by
    show PyData.strOk s = true
    unfold PyData.strOk
    rw [← Array.all_toList, List.all_eq_true]
    intro c hc
    have := of_decide_eq_true (List.all_eq_true.mp (show (s.cps.toList.all fun c => decide (c < 128)) = true from e) c hc)
    exact decide_eq_true (by omega)
  | .tup ds, e => finsB_lay ds e
  | .lst ds, e => finsB_lay ds e
  | .dct _, e => by cases e
  | .set _, e => by cases e
  | .fn _, e => by cases e
theorem finsB_lay {B : Nat} : ∀ ds : List D, finsB B ds = true → PyData.canLayAll0 (toPs ds) = true
  | [], _ => rfl
  | d :: ds, e => by
    rw [finsB, Bool.and_eq_true] at e
    show (PyData.canLay0 (toP d) && PyData.canLayAll0 (toPs ds)) = true
    rw [finB_lay d e.1, finsB_lay ds e.2]; rfl
end
theorem shp_of {B : Nat} {d : D} (h : finB B d = true) (hd : (toP d).depth ≤ 64) : shp d = true := by
  show (plain d && (PyData.canLay0 (toP d) && decide ((toP d).depth ≤ 64))) = true
  rw [finB_plain d h, finB_lay d h, decide_eq_true hd]; rfl
section
variable {B : Nat} {c : D} {lo hi : Int} {x0 : D} {r : List D} {bs : List Bo} {ps : List Pt} {z : Str} {q : Pt}
theorem is_within_eq (h : finB B c = true) : G_c_is_within [c, .int lo, .int hi] = .ok (.bl (within lo hi c)) false [] := by
  refine Wo.to ?_
  refine w_def (σ := [.fz c, .fz (.int lo), .fz (.int hi)]) rfl ?_
  unfold F_c_is_within
  refine s_seq (s_ret ?_)
  refine w_andP (tb := !isB c && within lo hi c) (w_p1 rfl (isi_int h) ⟨rfl, rfl⟩) (fun hI => ?_) ?_
  · refine w_andP (tb := within lo hi c) (w_not (t_bl (w_p1 rfl (isi_bool h) ⟨_, rfl, rfl, rfl⟩))) (fun hb => ?_) ⟨rfl, rfl⟩
    cases c with
    | int i => exact w_chainP (w_var rfl ⟨rfl, rfl⟩) (w_var rfl ⟨rfl, rfl⟩) (w_var rfl ⟨rfl, rfl⟩) rfl rfl ⟨rfl, rfl⟩
    | bl b => cases hb
    | _ => cases hI
  · refine ⟨[], rfl, ?_, rfl, rfl⟩
    cases c <;> rfl
theorem ixW2 : pIx [workD x0 bs ps r, .int 2] = some ⟨.tup (ps.map Pt.d), false⟩ := pIx_ok rfl (atI_nat (j := 2) rfl)
theorem ixW1 : pIx [workD x0 bs ps r, .int 1] = some ⟨.tup (bs.map Bo.d), false⟩ := pIx_ok rfl (atI_nat (j := 1) rfl)
theorem parts_of_eq (hl : ps.length ≤ 1000) : G_c_parts_of [workD x0 bs ps r] = .ok (.lst ((ps.map Pt.nm).map .str)) true [] := by
  refine Wo.to ?_
  refine w_def (σ := [.fz (workD x0 bs ps r), .no]) rfl ?_
  unfold F_c_parts_of
  refine s_seq (s_ret ?_)
  refine col_spec (bs := ps) (g := fun b => .str b.nm) hl ?_
  refine i_ex (w_p1c rfl ixW2 ?_)
  exact ⟨_, rfl, rfl, fun _ => rfl, F2.mapR (fun p _ => ⟨_, rfl⟩), [], rfl, by rw [List.map_map]; rfl, rfl, rfl⟩
theorem part_place_eq (hl : ps.length ≤ 1000) (hz : z ∈ ps.map Pt.nm) : G_c_part_place [workD x0 bs ps r, .str z] = .ok (.int (((ps.map Pt.nm).idxOf z : Nat) : Int)) false [] := by
  refine Wo.to ?_
  refine w_def (σ := [.fz (workD x0 bs ps r), .fz (.str z)]) rfl ?_
  unfold F_c_part_place
  refine s_seq (s_ret ?_)
  refine w_methV (w_c1 rfl (parts_of_eq hl) ⟨rfl, w_s rfl (w_nil ?_)⟩)
  exact ⟨_, _, rfl, index_ok hz, [], rfl, rfl, rfl, rfl⟩
theorem modes_of_eq (hl : ps.length ≤ 1000) (hz : z ∈ ps.map Pt.nm) : G_c_modes_of [workD x0 bs ps r, .str z] = .ok (.tup ((modesOf ps z).map .str)) false [] := by
  refine Wo.to ?_
  refine w_def (σ := [.fz (workD x0 bs ps r), .fz (.str z)]) rfl ?_
  unfold F_c_modes_of
  refine s_seq (s_ret ?_)
  refine w_pvc (w_pvv (w_p1c rfl ixW2 (w_c2 rfl rfl (part_place_eq hl hz) ?_)))
  have hlt := List.idxOf_lt_length_of_mem hz
  rw [List.length_map] at hlt
  have e1 := find_idx (p := z) ps
  rw [List.getElem?_eq_getElem hlt] at e1
  have e2 : modesOf ps z = ps[(ps.map Pt.nm).idxOf z].modes := by
    unfold modesOf
    rw [← e1]; rfl
  refine ⟨_, pIx_ok rfl (atI_nat (v := ps[(ps.map Pt.nm).idxOf z].d) (by rw [List.getElem?_map, List.getElem?_eq_getElem hlt]; rfl)), _, rfl, [], rfl, ?_, rfl, rfl⟩
  rw [e2]
theorem pTuple_ok {d : D} {ds : List D} (e : itemsOf d = some ds) : pTuple [d] = some ⟨.tup ds, false⟩ := by
  cases d with
  | lst xs => cases e; rfl
  | tup xs => cases e; rfl
  | _ => cases e
theorem eq_str {a b : Str} : pEq [.str a, .str b] = some ⟨.bl (a == b), false⟩ := rfl
theorem eq_int {a b : Int} : pEq [.int a, .int b] = some ⟨.bl (a == b), false⟩ := rfl
theorem ne_int {a b : Int} : pNe [.int a, .int b] = some ⟨.bl (!(a == b)), false⟩ := rfl
theorem find_part {zs : List Pt} (hq : zs.find? (fun x => x.nm == z) = some q) : ∃ t, zs.filter (fun x => x.nm == z) = q :: t := by
  have := List.head?_filter (p := fun x : Pt => x.nm == z) (l := zs)
  rw [hq] at this
  cases e : zs.filter (fun x => x.nm == z) with
  | nil => rw [e] at this; cases this
  | cons y t => rw [e] at this; cases this; exact ⟨t, rfl⟩
theorem find_isP {zs : List Pt} (h : z ∈ zs.map Pt.nm) : ∃ x, zs.find? (fun x => x.nm == z) = some x := by
  obtain ⟨x, hx, e⟩ := List.mem_map.mp h
  cases h2 : zs.find? (fun x => x.nm == z) with
  | none =>
    rw [List.find?_eq_none] at h2
    exact absurd (by rw [e]; exact beq_self_eq_true z) (h2 x hx)
  | some y => exact ⟨y, rfl⟩
end
theorem all_ok {α : Type} (f : α → Bool) (xs : List α) : pAll [.lst (xs.map fun x => .bl (f x))] = some ⟨.bl (xs.all f), false⟩ := by
  have e : (xs.map fun x => D.bl (f x)) = (xs.map f).map .bl := by rw [List.map_map]; rfl
  show (blsOf (xs.map fun x => D.bl (f x))).map _ = _
  rw [e, blsOf_map]
  show some (⟨.bl ((xs.map f).all id), false⟩ : RV) = _
  rw [List.all_map]; rfl
theorem len_ok {d : D} {ds : List D} (e : itemsOf d = some ds) : pLen [d] = some ⟨.int (ds.length : Nat), false⟩ := by
  cases d <;> first | (cases e; rfl) | cases e
/-! ### texts that rise -/
def ltS (a b : Str) : Bool := decide (a.cps.toList < b.cps.toList)
def asc (zs : List Str) : Bool := (zs.zip zs.tail).all fun p => ltS p.1 p.2
def strS (known : List Str) : D → Bool
  | .str z => decide (z ∈ known)
  | _ => false
def tx : D → Str
  | .str z => z
  | _ => Str.empty
def someB (known : List Str) : D → Bool
  | .tup ds => !ds.isEmpty && (ds.all (strS known) && asc (ds.map tx))
  | _ => false
theorem strs_all {known : List Str} {ds : List D} (h : ds.all (strS known) = true) : ds = (ds.map tx).map .str := by
  rw [List.all_eq_true] at h
  rw [List.map_map]
  refine (List.map_id ds).symm.trans (List.map_congr_left fun d hd => ?_)
  have := h d hd
  cases d <;> first | rfl | cases this
theorem someB_no {known : List Str} {d : D} (h : isTup d = false) : someB known d = false := by cases d <;> first | rfl | cases h
/-- the first two looks at a thing, alike in both -/
theorem lt_tr {a b c : Str} (h1 : ltS a b = true) (h2 : ltS b c = true) : ltS a c = true := by
  unfold ltS at *
  rw [decide_eq_true_iff] at *
  exact List.lt_trans h1 h2
theorem asc_iff : ∀ zs : List Str, asc zs = true ↔ zs.Pairwise fun a b => ltS a b = true
  | [] => by simp [asc]
  | [z] => by simp [asc]
  | a :: b :: r => by
    have ih := asc_iff (b :: r)
    have e : asc (a :: b :: r) = (ltS a b && asc (b :: r)) := rfl
    rw [e, Bool.and_eq_true, ih, List.pairwise_cons (a := a) (l := b :: r)]
    constructor
    · rintro ⟨h1, h2⟩
      refine ⟨fun c hc => ?_, h2⟩
      rcases List.mem_cons.mp hc with rfl | hc
      · exact h1
      · exact lt_tr h1 ((List.pairwise_cons.mp h2).1 c hc)
    · rintro ⟨h1, h2⟩
      exact ⟨h1 b (List.mem_cons_self ..), h2⟩
theorem lt_ne {a b : Str} (h : ltS a b = true) : a ≠ b := fun e => by
  subst e
  exact List.lt_irrefl _ (of_decide_eq_true h)
theorem lt_le {a b : Str} (h : ltS a b = true) : SE.leS a b = true := by
  unfold SE.leS
  simp only [Bool.not_eq_true', decide_eq_false_iff_not]
  exact fun q => List.lt_irrefl _ (List.lt_trans (of_decide_eq_true h) q)
theorem ded_id : ∀ zs : List Str, zs.Nodup → SE.ded zs = zs
  | [], _ => rfl
  | z :: r, h => by
    obtain ⟨h1, h2⟩ := List.nodup_cons.mp h
    unfold SE.ded
    rw [if_neg h1, ded_id r h2]
theorem srt_iff (zs : List Str) : (zs == SE.srt zs) = asc zs := by
  rw [Bool.eq_iff_iff, beq_iff_eq, asc_iff]
  constructor
  · intro e
    have h1 : (SE.srt zs).Nodup := (List.mergeSort_perm (SE.ded zs) SE.leS).nodup_iff.mpr (SE.nodup_ded zs)
    have h2 : (SE.srt zs).Pairwise fun a b => SE.leS a b = true := List.pairwise_mergeSort SE.le_trans' SE.le_total _
    rw [← e] at h1 h2
    refine (h1.and h2).imp fun {a b} h => ?_
    unfold ltS
    rw [decide_eq_true_iff]
    by_cases q : a.cps.toList < b.cps.toList
    · exact q
    · exact absurd (SE.le_un h.2 (by unfold SE.leS; rw [decide_eq_false q]; rfl)) h.1
  · intro h
    have h1 : zs.Nodup := h.imp fun {a b} q => lt_ne q
    unfold SE.srt
    rw [ded_id zs h1]
    exact (List.mergeSort_of_pairwise (h.imp fun {a b} q => lt_le q)).symm
theorem eqvs_strs : ∀ xs ys : List Str, eqvs (xs.map .str) (ys.map .str) = (xs == ys)
  | [], [] => rfl
  | [], _ :: _ => rfl
  | _ :: _, [] => rfl
  | x :: xs, y :: ys => by
    show ((x == y) && eqvs (xs.map .str) (ys.map .str)) = _
    rw [eqvs_strs xs ys]
    rfl
end L26
set_option autoImplicit false
set_option Elab.async false
set_option linter.all false
set_option maxRecDepth 100000
set_option pp.maxSteps 500
set_option pp.deepTerms false
namespace L26
open PySem L2 Wt
/-! ### texts that rise, as the program and the law ask -/
section
variable {B : Nat} {d M c : D} {known : List Str} {x0 : D} {r : List D} {bs : List Bo} {ps : List Pt} {z : Str}
theorem two_list {σ : Stt} {P : RV → Stt → Prop} {ds : List D} (hM : itemsOf M = some (known.map .str)) (e0 : σ[0]? = some (.fz (.tup ds))) (e1 : σ[1]? = some (.fz M)) (e2 : σ[2]? = some .no) (hl : ds.length ≤ 1000) (hf : ∀ x ∈ ds, finB B x = true)
    (k : P ⟨.lst (ds.map fun x => .bl (strS known x)), true⟩ σ) : W (fLc (.sl 0) [2] (.nm 2) (fun σ => .ok true σ) (fAnd (fPrim (pIsi ["str"]) [.s 2]) (fPrim pIn [.s 2, .s 1])) σ) P := by
  refine lc_gen (i_fz e0 rfl ⟨e2, hl, fun t => off_fz e0, ds.map fun x => .bl (strS known x), ?_, k⟩)
  have hlt : 2 < σ.length := (List.getElem?_eq_some_iff.mp e2).1
  have g2 : ∀ x : D, ((σ.set 2 (.fz x))[2]?).bind Sl.d? = some x := fun x => by rw [List.getElem?_set_self hlt]; rfl
  have g1 : ∀ x : D, ((σ.set 2 (.fz x))[1]?).bind Sl.d? = some M := fun x => by rw [List.getElem?_set_ne (by decide), e1]; rfl
  refine F2.mapR fun x hx => ?_
  refine w_andP (tb := strS known x) (w_p1 (g2 x) (isi_str (hf x hx)) ⟨rfl, rfl⟩) (fun hs => ?_) ?_
  · obtain ⟨s, rfl⟩ := str_of hs
    exact w_p2 (g2 _) (g1 _) (in_ok hM) ⟨rfl, rfl⟩
  · refine ⟨?_, rfl⟩
    cases x <;> rfl
theorem eq_zero {n : Nat} : pEq [.int (n : Nat), .int 0] = some ⟨.bl (decide (n = 0)), false⟩ := by
  have e : (((n : Nat) : Int) == 0) = decide (n = 0) := by
    rw [Bool.eq_iff_iff, beq_iff_eq, decide_eq_true_iff]
    omega
  show some (⟨.bl (((n : Nat) : Int) == 0), false⟩ : RV) = _
  rw [e]
theorem someB_cons {ds : List D} (h : ds.length ≠ 0) : someB known (.tup ds) = (ds.all (strS known) && asc (ds.map tx)) := by
  cases ds with
  | nil => exact absurd rfl h
  | cons x r => rfl
set_option maxHeartbeats 4000000 in
theorem are_some_of_eq (hM : itemsOf M = some (known.map .str)) (hf : finB B d = true) (hl : ∀ ds, d = .tup ds → ds.length ≤ 900) : G_c_are_some_of [d, M] = .ok (.bl (someB known d)) false [] := by
  refine Wo.to ?_
  refine w_def (σ := [.fz d, .fz M, .no, .no]) rfl ?_
  unfold F_c_are_some_of
  refine s_seq (s_if (t_or (t_not (t_p1 rfl (isi_tuple hf) ?_))))
  cases ht : isTup d with
  | false => exact ifT rfl (ifT rfl (s_seq (s_ret (w_c ⟨[], rfl, by rw [someB_no ht], rfl, rfl⟩))))
  | true =>
    obtain ⟨ds, rfl⟩ := tup_of ht
    have hl' := hl ds rfl
    have hfs := finsB_iff.mp (show finsB B ds = true from hf)
    refine ifF Bool.false_ne_true (t_bl (w_pvc (w_p1 rfl (len_ok rfl) ⟨_, eq_zero, _, rfl, ?_⟩)))
    by_cases h0 : ds.length = 0
    · have e0 : ds = [] := List.length_eq_zero_iff.mp h0
      subst e0
      exact ifT rfl (s_seq (s_ret (w_c ⟨[], rfl, rfl, rfl, rfl⟩)))
    refine ifF (by rw [decide_eq_false h0]; exact Bool.false_ne_true) (s_nil ?_)
    rw [someB_cons h0]
    refine s_seq (s_if (t_not (t_val (w_pv (two_list hM rfl rfl rfl (by omega) hfs ⟨_, all_ok _ _, _, rfl, ?_⟩)))))
    cases ha : ds.all (strS known) with
    | false => exact ifT rfl (s_seq (s_ret (w_c ⟨[], rfl, by rw [Bool.false_and], rfl, rfl⟩)))
    | true =>
      refine ifF Bool.false_ne_true (s_nil ?_)
      have es := strs_all ha
      generalize ds.map tx = zs at es
      subst es
      rw [List.length_map] at hl' h0
      refine s_seq (s_ret (w_pv (w_lc (i_zip (w_var rfl (w_sl (w_as rfl (w_bat (w_av (w_c ⟨_, rfl, w_bno ⟨_, ⟨.tup (cutD (zs.map .str) (some 1) none), false⟩, rfl, rfl, ?_⟩⟩))))))))))
      have ec : cutD (zs.map D.str) (some 1) none = (zs.tail).map .str := by
        have := cut_from (ns := zs) (a := 1) (by omega)
        rw [List.drop_one] at this
        exact this
      rw [ec]
      have ez : ∀ (i : Nat) (d : D), (zipD (zs.map D.str) (zs.tail.map D.str))[i]? = some d → ∃ a b, (zs.zip zs.tail)[i]? = some (a, b) ∧ d = D.tup [.str a, .str b] := fun i d h => by
        obtain ⟨a, b, h1, h2, rfl⟩ := Wt.zipD_get h
        rw [List.getElem?_map] at h1 h2
        obtain ⟨a', h3, rfl⟩ := Option.map_eq_some_iff.mp h1
        obtain ⟨b', h4, rfl⟩ := Option.map_eq_some_iff.mp h2
        exact ⟨a', b', by rw [List.getElem?_zip_eq_some]; exact ⟨h3, h4⟩, rfl⟩
      refine ⟨_, _, .inr ⟨rfl, rfl⟩, rfl, fun i acc s => acc = ((zs.zip zs.tail).take i).map (fun p => .bl (ltS p.1 p.2)) ∧ ∃ a b, s = [.fz (.tup (zs.map .str)), .fz M, a, b] ∧ Free a ∧ Free b, ⟨rfl, _, _, rfl, .no, .no⟩, ?_, ?_⟩
      · rintro i d acc s hd ⟨rfl, a, b, rfl, fa, fb⟩
        obtain ⟨x, y, h1, rfl⟩ := ez i d hd
        refine ⟨_, rfl, .mk (ifT rfl ?_)⟩
        refine w_p2 (r := ⟨.bl (ltS x y), false⟩) rfl rfl rfl ⟨lenLt ?_, ?_, _, _, rfl, .fz, .fz⟩
        · rw [List.length_map, List.length_take, List.length_zip]
          omega
        · rw [List.take_add_one, h1, List.map_append]; rfl
      · rintro acc s ⟨rfl, a, b, rfl, fa, fb⟩
        rw [Wt.zipD_len, List.length_map, List.length_map, ← List.length_zip, List.take_length]
        refine ⟨_, all_ok _ _, [], rfl, ?_, rfl, rfl⟩
        rw [Bool.true_and]; rfl
theorem eq_lists (xs ys : List Str) (h1 : shp (.lst (xs.map .str)) = true) (h2 : shp (.lst (ys.map .str)) = true) : pEq [.lst (xs.map .str), .lst (ys.map .str)] = some ⟨.bl (xs == ys), false⟩ := by
  show (if (scalD (.lst (xs.map .str)) (.lst (ys.map .str)) || (shp (.lst (xs.map .str)) && shp (.lst (ys.map .str)))) = true then some (⟨.bl (eqvs (xs.map .str) (ys.map .str)), false⟩ : RV) else none) = _
  rw [h1, h2, eqvs_strs]
  simp only [Bool.and_self, Bool.or_true, if_true]
theorem strs_shp {zs : List Str} (h : ∀ z ∈ zs, finB B (.str z) = true) : shp (.lst (zs.map .str)) = true := by
  refine shp_of (B := B) (finsB_iff.mpr fun d hd => ?_) ?_
  · obtain ⟨z, hz, rfl⟩ := List.mem_map.mp hd
    exact h z hz
  · refine Nat.le_trans (Nat.succ_le_succ (depths_iff (k := 0).mpr fun d hd => ?_)) (by omega)
    obtain ⟨z, hz, rfl⟩ := List.mem_map.mp hd
    exact Nat.zero_le _
theorem mem_srt {z : Str} {zs : List Str} : z ∈ SE.srt zs ↔ z ∈ zs := ((List.mergeSort_perm (SE.ded zs) SE.leS).mem_iff).trans (SE.mem_ded z zs)
set_option maxHeartbeats 4000000 in
theorem rises_eq (hM : itemsOf M = some (known.map .str)) (hf : finB B d = true) (hl : ∀ ds, d = .tup ds → ds.length ≤ 900) : G_l_rises [d, M] = .ok (.bl (someB known d)) false [] := by
  refine Wo.to ?_
  refine w_def (σ := [.fz d, .fz M, .no]) rfl ?_
  unfold F_l_rises
  refine s_seq (s_if (t_or (t_not (t_p1 rfl (isi_tuple hf) ?_))))
  cases ht : isTup d with
  | false => exact ifT rfl (ifT rfl (s_seq (s_ret (w_c ⟨[], rfl, by rw [someB_no ht], rfl, rfl⟩))))
  | true =>
    obtain ⟨ds, rfl⟩ := tup_of ht
    have hl' := hl ds rfl
    have hfs := finsB_iff.mp (show finsB B ds = true from hf)
    refine ifF Bool.false_ne_true (t_bl (w_pvc (w_p1 rfl (len_ok rfl) ⟨_, eq_zero, _, rfl, ?_⟩)))
    by_cases h0 : ds.length = 0
    · have e0 : ds = [] := List.length_eq_zero_iff.mp h0
      subst e0
      exact ifT rfl (s_seq (s_ret (w_c ⟨[], rfl, rfl, rfl, rfl⟩)))
    refine ifF (by rw [decide_eq_false h0]; exact Bool.false_ne_true) (s_nil ?_)
    rw [someB_cons h0]
    refine s_seq (s_if (t_not (t_val (w_pv (two_list hM rfl rfl rfl (by omega) hfs ⟨_, all_ok _ _, _, rfl, ?_⟩)))))
    cases ha : ds.all (strS known) with
    | false => exact ifT rfl (s_seq (s_ret (w_c ⟨[], rfl, by rw [Bool.false_and], rfl, rfl⟩)))
    | true =>
      refine ifF Bool.false_ne_true (s_nil ?_)
      have es := strs_all ha
      generalize ds.map tx = zs at es
      subst es
      rw [List.length_map] at hl' h0
      have hz : ∀ z ∈ zs, finB B (.str z) = true := fun z hz => hfs _ (List.mem_map_of_mem hz)
      have e1 : pSortSet [.tup (zs.map .str)] = some ⟨.lst ((SE.srt zs).map .str), true⟩ := by
        show (match strsOf (zs.map D.str) with | some zs => (if zs.length ≤ 1000 then some (⟨.lst ((SE.srt zs).map .str), true⟩ : RV) else none) | none => none) = _
        rw [strsOf_map]
        exact if_pos (by omega)
      refine s_seq (s_ret (w_pvv (w_p1 (r := ⟨.lst (zs.map .str), true⟩) rfl rfl (w_p1 rfl e1 ⟨_, eq_lists zs (SE.srt zs) (strs_shp hz) (strs_shp (B := B) fun z hm => hz z (mem_srt.mp hm)), [], rfl, ?_, rfl, rfl⟩))))
      rw [srt_iff, Bool.true_and]
theorem boxes_of_eq (hl : bs.length ≤ 1000) : G_c_boxes_of [workD x0 bs ps r] = .ok (.lst ((bs.map Bo.nm).map .str)) true [] := by
  refine Wo.to ?_
  refine w_def (σ := [.fz (workD x0 bs ps r), .no]) rfl ?_
  unfold F_c_boxes_of
  refine s_seq (s_ret ?_)
  refine col_spec (bs := bs) (g := fun b => .str b.nm) hl ?_
  refine i_ex (w_p1c rfl ixW1 ?_)
  exact ⟨_, rfl, rfl, fun _ => rfl, F2.mapR (fun p _ => ⟨_, rfl⟩), [], rfl, by rw [List.map_map]; rfl, rfl, rfl⟩
theorem is_number_eq (h : finB B c = true) : G_l_is_number [c] = .ok (.bl (within 0 40 c)) false [] := by
  refine Wo.to ?_
  refine w_def (σ := [.fz c]) rfl ?_
  unfold F_l_is_number
  refine s_seq (s_ret ?_)
  refine w_andP (tb := !isB c && within 0 40 c) (w_p1 rfl (isi_int h) ⟨rfl, rfl⟩) (fun hI => ?_) ?_
  · refine w_andP (tb := within 0 40 c) (w_not (t_bl (w_p1 rfl (isi_bool h) ⟨_, rfl, rfl, rfl⟩))) (fun hb => ?_) ⟨rfl, rfl⟩
    cases c with
    | int i => exact w_chainP (w_c ⟨rfl, rfl⟩) (w_var rfl ⟨rfl, rfl⟩) (w_c ⟨rfl, rfl⟩) rfl rfl ⟨rfl, rfl⟩
    | bl b => cases hb
    | _ => cases hI
  · refine ⟨[], rfl, ?_, rfl, rfl⟩
    cases c <;> rfl
end
end L26
set_option autoImplicit false
set_option Elab.async false
set_option linter.all false
set_option maxRecDepth 100000
set_option pp.maxSteps 500
set_option pp.deepTerms false
namespace L26
open PySem L2 Wt
/-! ### claims, by the program and by the law -/
def sumB (bn : List Str) : List D → Bool
  | [a, x, y] => someB bn a && (within 0 40 x && within 0 40 y)
  | _ => false
def mode2 (ps : List Pt) (a : D) : D → Bool
  | .str z => decide (z ∈ ps.map Pt.nm) && someB (modesOf ps z) a
  | _ => false
def modeB (ps : List Pt) : List D → Bool
  | [p, a] => mode2 ps a p
  | _ => false
def notB (f : D → Bool) : List D → Bool
  | [x] => f x
  | _ => false
def all1 (f : D → Bool) : D → Bool
  | .tup xs => xs.all f
  | _ => false
def allB (f : D → Bool) : List D → Bool
  | [p] => all1 f p
  | _ => false
def clmW (bn : List Str) (ps : List Pt) (f : D → Bool) (w : Str) (r : List D) : Bool :=
  if w = "sum" then sumB bn r else if w = "mode" then modeB ps r else if w = "not" then notB f r else if w = "all" ∨ w = "any" then allB f r else false
def clm (bn : List Str) (ps : List Pt) : Nat → D → Bool
  | 0, _ => false
  | n + 1, .tup (.str w :: r) => clmW bn ps (clm bn ps n) w r
  | _ + 1, _ => false
section
variable {B : Nat} {d c : D} {x0 : D} {r w5 : List D} {bs : List Bo} {ps : List Pt} {z : Str} {f : D → Bool}
theorem all2 (a b : Bool) : pAll [.lst [.bl a, .bl b]] = some ⟨.bl (a && b), false⟩ := by cases a <;> cases b <;> rfl
theorem tlen {k n : Nat} (hF : Fine B k n d) (hn : n ≤ 900) : ∀ ds, d = .tup ds → ds.length ≤ 900 := fun ds e => by
  obtain ⟨_, _, h⟩ := hF.items (ds := ds) (by rw [e]; rfl)
  have := h.len
  omega
theorem len_ne {l : List D} {m : Nat} (h : l.length ≠ m) : (!((l.length : Int) == (m : Nat))) = true := by
  rw [Bool.not_eq_true', beq_eq_false_iff_ne]
  omega
theorem sumB_len {bn : List Str} {l : List D} (h : l.length ≠ 3) : sumB bn l = false := by
  match l, h with
  | [], _ => rfl
  | [_], _ => rfl
  | [_, _], _ => rfl
  | [_, _, _], h => exact absurd rfl h
  | _ :: _ :: _ :: _ :: _, _ => rfl
theorem three {ds : List D} (h : ds.length = 3) : ∃ a b c, ds = [a, b, c] := by
  match ds, h with
  | [a, b, c], _ => exact ⟨a, b, c, rfl⟩
theorem two {ds : List D} (h : ds.length = 2) : ∃ a b, ds = [a, b] := by
  match ds, h with
  | [a, b], _ => exact ⟨a, b, rfl⟩
theorem one {ds : List D} (h : ds.length = 1) : ∃ a, ds = [a] := by
  match ds, h with
  | [a], _ => exact ⟨a, rfl⟩
theorem modeB_len {l : List D} (h : l.length ≠ 2) : modeB ps l = false := by
  match l, h with
  | [], _ => rfl
  | [_], _ => rfl
  | [_, _], h => exact absurd rfl h
  | _ :: _ :: _ :: _, _ => rfl
theorem modeB_str {p a : D} (h : isS p = false) : modeB ps [p, a] = false := by cases p <;> first | rfl | cases h
theorem notB_len {l : List D} (h : l.length ≠ 1) : notB f l = false := by
  match l, h with
  | [], _ => rfl
  | [_], h => exact absurd rfl h
  | _ :: _ :: _, _ => rfl
theorem allB_len {l : List D} (h : l.length ≠ 1) : allB f l = false := by
  match l, h with
  | [], _ => rfl
  | [_], h => exact absurd rfl h
  | _ :: _ :: _, _ => rfl
theorem allB_tup {p : D} (h : isTup p = false) : allB f [p] = false := by cases p <;> first | rfl | cases h
theorem is_sum_eq {k n : Nat} (hbl : bs.length ≤ 1000) (hF : Fines B k n r) (hn : n ≤ 900) : G_c_is_sum [workD x0 bs ps w5, .lst r] = .ok (.bl (sumB (bs.map Bo.nm) r)) false [] := by
  refine Wo.to ?_
  refine w_def (σ := [.fz (workD x0 bs ps w5), .fz (.lst r), .no]) rfl ?_
  unfold F_c_is_sum
  refine s_seq (s_if (t_or (t_bl (w_pvc (w_p1 rfl (len_ok rfl) ⟨_, ne_int, _, rfl, ?_⟩)))))
  by_cases h3 : r.length = 3
  · obtain ⟨a, x, y, rfl⟩ := three h3
    have fa := hF.fi a (by simp)
    have fx := hF.fi x (by simp)
    have fy := hF.fi y (by simp)
    have la := tlen (hF.get (d := a) (by simp)).1 (by omega)
    refine ifF Bool.false_ne_true (t_not (t_val (w_cFF (w_p1c rfl (pIx_ok rfl (atI_nat (j := 0) rfl)) (w_c1 rfl (boxes_of_eq hbl) ⟨_, _, are_some_of_eq rfl fa la, _, rfl, ?_⟩)))))
    have e3 : sumB (bs.map Bo.nm) [a, x, y] = (someB (bs.map Bo.nm) a && (within 0 40 x && within 0 40 y)) := rfl
    rw [e3]
    cases hs : someB (bs.map Bo.nm) a with
    | false => exact ifT rfl (s_seq (s_ret (w_c ⟨[], rfl, rfl, rfl, rfl⟩)))
    | true =>
      refine ifF Bool.false_ne_true (s_nil ?_)
      have ec : cutD [a, x, y] (some 1) none = [x, y] := rfl
      refine s_seq (s_ret (w_pv (lc_gen (i_ex (w_sl (w_as rfl (w_bat (w_av (w_c ⟨_, rfl, w_bno ⟨_, ⟨.lst (cutD [a, x, y] (some 1) none), true⟩, rfl, rfl, ?_⟩⟩)))))))))
      rw [ec]
      refine ⟨_, rfl, rfl, Nat.le_of_ble_eq_true rfl, fun _ => rfl, [.bl (within 0 40 x), .bl (within 0 40 y)], ?_, ⟨_, all2 _ _, [], rfl, ?_, rfl, rfl⟩⟩
      · exact .cons (w_cFFF (w_var rfl (w_c (w_c ⟨_, _, is_within_eq fx, rfl, rfl⟩)))) (.cons (w_cFFF (w_var rfl (w_c (w_c ⟨_, _, is_within_eq fy, rfl, rfl⟩)))) .nil)
      · rw [Bool.true_and]
  · refine ifT (len_ne h3) (s_seq (s_ret (w_c ?_)))
    exact ⟨[], rfl, by rw [sumB_len h3], rfl, rfl⟩
theorem is_mode_eq {k n : Nat} (hpl : ps.length ≤ 1000) (hF : Fines B k n r) (hn : n ≤ 900) : G_c_is_mode [workD x0 bs ps w5, .lst r] = .ok (.bl (modeB ps r)) false [] := by
  refine Wo.to ?_
  refine w_def (σ := [.fz (workD x0 bs ps w5), .fz (.lst r)]) rfl ?_
  unfold F_c_is_mode
  refine s_seq (s_if (t_or (t_bl (w_pvc (w_p1 rfl (len_ok rfl) ⟨_, ne_int, _, rfl, ?_⟩)))))
  by_cases h2 : r.length = 2
  · obtain ⟨p, a, rfl⟩ := two h2
    have fp := hF.fi p (by simp)
    have fa := hF.fi a (by simp)
    have la := tlen (hF.get (d := a) (by simp)).1 (by omega)
    refine ifF Bool.false_ne_true (t_or (t_not (t_val (w_pv (w_p1c rfl (pIx_ok rfl (atI_nat (j := 0) rfl)) ⟨_, isi_str fp, _, rfl, ?_⟩)))))
    cases hs : isS p with
    | false => exact ifT rfl (ifT rfl (s_seq (s_ret (w_c ⟨[], rfl, by rw [modeB_str hs], rfl, rfl⟩))))
    | true =>
      obtain ⟨z, rfl⟩ := str_of hs
      have e3 : modeB ps [.str z, a] = (decide (z ∈ ps.map Pt.nm) && someB (modesOf ps z) a) := rfl
      rw [e3]
      refine ifF Bool.false_ne_true (t_bl (w_pvv (w_p1c rfl (pIx_ok rfl (atI_nat (j := 0) rfl)) (w_c1 rfl (parts_of_eq hpl) ⟨_, notIn_ok rfl, _, rfl, ?_⟩))))
      by_cases hz : z ∈ ps.map Pt.nm
      · refine ifF (by rw [decide_eq_true hz]; exact Bool.false_ne_true) (s_nil ?_)
        refine s_seq (s_ret (w_cFF (w_p1c rfl (pIx_ok rfl (atI_nat (j := 1) rfl)) (w_cFF (w_var rfl (w_p1c rfl (pIx_ok rfl (atI_nat (j := 0) rfl)) ⟨_, _, modes_of_eq hpl hz, ⟨_, _, are_some_of_eq rfl fa la, [], rfl, ?_, rfl, rfl⟩⟩))))))
        rw [decide_eq_true hz, Bool.true_and]
      · refine ifT (by rw [decide_eq_false hz]; rfl) (s_seq (s_ret (w_c ⟨[], rfl, ?_, rfl, rfl⟩)))
        rw [decide_eq_false hz, Bool.false_and]
  · refine ifT (len_ne h2) (s_seq (s_ret (w_c ?_)))
    exact ⟨[], rfl, by rw [modeB_len h2], rfl, rfl⟩
theorem is_not_eq {m : Nat} {W0 : D} (h : ∀ x ∈ r, G_c_is_claim m [W0, x] = .ok (.bl (f x)) false []) : G_c_is_not (m + 1) [W0, .lst r] = .ok (.bl (notB f r)) false [] := by
  refine Wo.to ?_
  unfold G_c_is_not
  refine w_def (σ := [.fz W0, .fz (.lst r)]) rfl ?_
  unfold F_c_is_not
  refine s_seq (s_ret (w_and (w_pvc (w_p1 rfl (len_ok rfl) ⟨_, eq_int, _, rfl, ?_⟩))))
  by_cases h1 : r.length = 1
  · obtain ⟨a, rfl⟩ := one h1
    exact ifT rfl (w_cFF (w_var rfl (w_p1c rfl (pIx_ok rfl (atI_nat (j := 0) rfl)) ⟨_, _, h a (by simp), [], rfl, rfl, rfl, rfl⟩)))
  · refine ifF ?_ ⟨[], rfl, by rw [notB_len h1], rfl, rfl⟩
    intro q
    have q2 : ((r.length : Nat) : Int) = 1 := by simpa using q
    omega
theorem are_claims_eq {m : Nat} {W0 : D} (hf : ∀ x ∈ r, finB B x = true) (hl : ∀ xs, .tup xs ∈ r → xs.length ≤ 900) (h : ∀ xs, .tup xs ∈ r → ∀ x ∈ xs, G_c_is_claim m [W0, x] = .ok (.bl (f x)) false []) : G_c_are_claims (m + 1) [W0, .lst r] = .ok (.bl (allB f r)) false [] := by
  refine Wo.to ?_
  unfold G_c_are_claims
  refine w_def (σ := [.fz W0, .fz (.lst r), .no]) rfl ?_
  unfold F_c_are_claims
  refine s_seq (s_if (t_or (t_bl (w_pvc (w_p1 rfl (len_ok rfl) ⟨_, ne_int, _, rfl, ?_⟩)))))
  by_cases h1 : r.length = 1
  · obtain ⟨a, rfl⟩ := one h1
    refine ifF Bool.false_ne_true (t_not (t_val (w_pv (w_p1c rfl (pIx_ok rfl (atI_nat (j := 0) rfl)) ⟨_, isi_tuple (hf a (by simp)), _, rfl, ?_⟩))))
    cases ht : isTup a with
    | false => exact ifT rfl (s_seq (s_ret (w_c ⟨[], rfl, by rw [allB_tup ht], rfl, rfl⟩)))
    | true =>
      obtain ⟨xs, rfl⟩ := tup_of ht
      have hl' := hl xs (by simp)
      refine ifF Bool.false_ne_true (s_nil ?_)
      refine s_seq (s_ret (w_pv (lc_gen (i_ex (w_p1c rfl (pIx_ok rfl (atI_nat (j := 0) rfl)) ⟨_, rfl, rfl, by omega, fun _ => rfl, xs.map fun x => .bl (f x), ?_, ⟨_, all_ok _ _, [], rfl, rfl, rfl, rfl⟩⟩)))))
      exact F2.mapR fun x hx => w_c2 rfl rfl (h xs (by simp) x hx) ⟨rfl, rfl⟩
  · refine ifT (len_ne h1) (s_seq (s_ret (w_c ?_)))
    exact ⟨[], rfl, by rw [allB_len h1], rfl, rfl⟩
theorem clm_no {bn : List Str} {m : Nat} (h : isTup d = false) : clm bn ps m d = false := by
  cases m with
  | zero => rfl
  | succ m => cases d <;> first | rfl | cases h
theorem clm_hd {bn : List Str} {m : Nat} {h : D} (hs : isS h = false) : clm bn ps m (.tup (h :: r)) = false := by
  cases m with
  | zero => rfl
  | succ m => cases h <;> first | rfl | cases hs
theorem clm_nil {bn : List Str} {m : Nat} : clm bn ps m (.tup []) = false := by cases m <;> rfl
set_option maxHeartbeats 4000000 in
theorem is_claim_eq (hbl : bs.length ≤ 1000) (hpl : ps.length ≤ 1000) : ∀ (m g k n : Nat) (d : D), Fine B k n d → n ≤ 900 → k < m → 2 * m ≤ g → G_c_is_claim g [workD x0 bs ps w5, d] = .ok (.bl (clm (bs.map Bo.nm) ps m d)) false [] := by
  intro m
  induction m with
  | zero => intro g k n d _ _ h; exact absurd h (Nat.not_lt_zero _)
  | succ m ih =>
    intro g k n d hF hn hk hg
    obtain ⟨g, rfl⟩ : ∃ q, g = q + 2 := ⟨g - 2, by omega⟩
    have hf := hF.fi
    refine Wo.to ?_
    unfold G_c_is_claim
    refine w_def (σ := [.fz (workD x0 bs ps w5), .fz d, .no, .no, .no]) rfl ?_
    unfold F_c_is_claim
    refine s_seq (s_if (t_or (t_not (t_p1 rfl (isi_tuple hf) ?_))))
    cases ht : isTup d with
    | false => exact ifT rfl (ifT rfl (s_seq (s_ret (w_c ⟨[], rfl, by rw [clm_no ht], rfl, rfl⟩))))
    | true =>
      obtain ⟨ds, rfl⟩ := tup_of ht
      obtain ⟨j, rfl, hFs⟩ := hF.items rfl
      refine ifF Bool.false_ne_true (t_or (t_bl (w_pvc (w_p1 rfl (len_ok rfl) ⟨_, eq_zero, _, rfl, ?_⟩))))
      cases ds with
      | nil => exact ifT rfl (ifT rfl (s_seq (s_ret (w_c ⟨[], rfl, by rw [clm_nil], rfl, rfl⟩))))
      | cons h r =>
        refine ifF (by simp) (t_not (t_val (w_pv (w_p1c rfl (pIx_ok rfl (atI_nat (j := 0) rfl)) ⟨_, isi_str (hFs.fi h (by simp)), _, rfl, ?_⟩))))
        cases hs : isS h with
        | false => exact ifT rfl (s_seq (s_ret (w_c ⟨[], rfl, by rw [clm_hd hs], rfl, rfl⟩)))
        | true =>
          obtain ⟨w, rfl⟩ := str_of hs
          have hr : Fines B j n r := hFs.sub (List.sublist_cons_self ..)
          have e1 : clm (bs.map Bo.nm) ps (m + 1) (.tup (.str w :: r)) = clmW (bs.map Bo.nm) ps (clm (bs.map Bo.nm) ps m) w r := rfl
          rw [e1]
          have hin : ∀ x ∈ r, G_c_is_claim g [workD x0 bs ps w5, x] = .ok (.bl (clm (bs.map Bo.nm) ps m x)) false [] := fun x hx => ih g j (n - 1) x (hr.get hx).1 (by omega) (by omega) (by omega)
          have hin2 : ∀ xs, .tup xs ∈ r → ∀ x ∈ xs, G_c_is_claim g [workD x0 bs ps w5, x] = .ok (.bl (clm (bs.map Bo.nm) ps m x)) false [] := fun xs hxs x hx => by
            obtain ⟨i, rfl, hX⟩ := (hr.get hxs).1.items rfl
            exact ih g i (n - 1 - 1) x (hX.get hx).1 (by omega) (by omega) (by omega)
          have hl : ∀ xs, .tup xs ∈ r → xs.length ≤ 900 := fun xs hxs => tlen (hr.get hxs).1 (by omega) xs rfl
          refine ifF Bool.false_ne_true (s_nil ?_)
          refine s_seq (s_star (w_var rfl ⟨_, _, _, _, rfl, rfl, rfl, ?_⟩))
          refine s_seq (s_if (t_bl (w_p1 rfl rfl ⟨_, rfl, ?_⟩)))
          by_cases c1 : w = "sum"
          · subst c1
            refine ifF Bool.false_ne_true (s_nil ?_)
            refine s_seq (s_set (w_p1 (r := ⟨.fn "is_sum", false⟩) rfl rfl ⟨_, rfl, ?_⟩))
            exact s_seq (s_ret (w_callV rfl rfl (w_cFF (w_var rfl (w_varO rfl ⟨_, _, is_sum_eq hbl hr hn, [], rfl, rfl, rfl, rfl⟩)))))
          by_cases c2 : w = "mode"
          · subst c2
            refine ifF Bool.false_ne_true (s_nil ?_)
            refine s_seq (s_set (w_p1 (r := ⟨.fn "is_mode", false⟩) rfl rfl ⟨_, rfl, ?_⟩))
            exact s_seq (s_ret (w_callV rfl rfl (w_cFF (w_var rfl (w_varO rfl ⟨_, _, is_mode_eq hpl hr hn, [], rfl, rfl, rfl, rfl⟩)))))
          by_cases c3 : w = "not"
          · subst c3
            refine ifF Bool.false_ne_true (s_nil ?_)
            refine s_seq (s_set (w_p1 (r := ⟨.fn "is_not", false⟩) rfl rfl ⟨_, rfl, ?_⟩))
            exact s_seq (s_ret (w_callV rfl rfl (w_cFF (w_var rfl (w_varO rfl ⟨_, _, is_not_eq hin, [], rfl, rfl, rfl, rfl⟩)))))
          by_cases c4 : w = "all"
          · subst c4
            refine ifF Bool.false_ne_true (s_nil ?_)
            refine s_seq (s_set (w_p1 (r := ⟨.fn "are_claims", false⟩) rfl rfl ⟨_, rfl, ?_⟩))
            exact s_seq (s_ret (w_callV rfl rfl (w_cFF (w_var rfl (w_varO rfl ⟨_, _, are_claims_eq hr.fi hl hin2, [], rfl, rfl, rfl, rfl⟩)))))
          by_cases c5 : w = "any"
          · subst c5
            refine ifF Bool.false_ne_true (s_nil ?_)
            refine s_seq (s_set (w_p1 (r := ⟨.fn "are_claims", false⟩) rfl rfl ⟨_, rfl, ?_⟩))
            exact s_seq (s_ret (w_callV rfl rfl (w_cFF (w_var rfl (w_varO rfl ⟨_, _, are_claims_eq hr.fi hl hin2, [], rfl, rfl, rfl, rfl⟩)))))
          · refine ifT ?_ (s_seq (s_ret (w_c ⟨[], rfl, ?_, rfl, rfl⟩)))
            · have : (["sum", "mode", "not", "all", "any"] : List Str).contains w = false := by
                simp only [List.contains_cons, List.contains_nil, Bool.or_false, Bool.or_eq_false_iff, beq_eq_false_iff_ne]
                exact ⟨c1, c2, c3, c4, c5⟩
              show (!(["sum", "mode", "not", "all", "any"] : List Str).contains w) = true
              rw [this]; rfl
            · unfold clmW
              rw [if_neg c1, if_neg c2, if_neg c3, if_neg (fun q => q.elim c4 c5)]
end
end L26
set_option autoImplicit false
set_option Elab.async false
set_option linter.all false
set_option maxRecDepth 100000
set_option pp.maxSteps 500
set_option pp.deepTerms false
namespace L26
open PySem L2 Wt
/-! ### claims, by the law -/
theorem ln_ {n : Nat} (h : Nat.ble n 1000 = true) : n ≤ sizeLine := lenLe (Nat.le_of_ble_eq_true h)
section
variable {B : Nat} {d c : D} {x0 : D} {r w5 : List D} {bs : List Bo} {ps : List Pt} {z w : Str} {f : D → Bool}
def nmOfD : D → D
  | .tup (n :: _) => n
  | _ => .non
def secD : D → D
  | .tup (_ :: m :: _) => m
  | _ => .non
theorem sz_no {m : Nat} {i : Int} (h : r.length ≠ m) (e : i = ((m : Nat) : Int) + 1) : ¬ ((((((D.str w :: r).length : Nat) : Int) == i)) = true) := by
  rw [beq_iff_eq, List.length_cons]
  omega
theorem sz_ye {m : Nat} {i : Int} (h : r.length ≠ m) (e : i = ((m : Nat) : Int) + 1) : (!((((D.str w :: r).length : Nat) : Int) == i)) = true := by
  have := sz_no (w := w) h e
  simpa using this
theorem eq_any {d e : D} (h1 : shp d = true) (h2 : shp e = true) : pEq [d, e] = some ⟨.bl (eqv d e), false⟩ := by
  show (if (scalD d e || (shp d && shp e)) = true then some (⟨.bl (eqv d e), false⟩ : RV) else none) = _
  rw [h1, h2]
  simp only [Bool.and_self, Bool.or_true, if_true]
theorem ne_nil {l : List D} (h1 : shp (.lst l) = true) : pNe [.lst l, .lst []] = some ⟨.bl (!l.isEmpty), false⟩ := by
  have h2 : shp (.lst []) = true := rfl
  show (if (scalD (.lst l) (.lst []) || (shp (.lst l) && shp (.lst []))) = true then some (⟨.bl (!eqv (.lst l) (.lst [])), false⟩ : RV) else none) = _
  rw [h1, h2]
  simp only [Bool.and_self, Bool.or_true, if_true]
  cases l <;> rfl
theorem okS_b {k : Nat} {s : Str} (h : okS k s) : finB B (.str s) = true := by
  show (s.cps.toList.all fun c => decide (c < 128)) = true
  rw [List.all_eq_true]
  intro c hc
  have := h.2 c hc
  exact decide_eq_true (by omega)
/-- the modes of the parts of that name -/
def knw (ps : List Pt) (a : D) : List Pt := ps.filter fun q => eqv (.str q.nm) a
theorem knw_str : knw ps (.str z) = ps.filter fun q => q.nm == z := rfl
theorem knw_no (h : isS c = false) : knw ps c = [] := by
  unfold knw
  rw [List.filter_eq_nil_iff]
  intro q _
  cases c <;> first | (cases h; done) | exact Bool.false_ne_true
theorem knw_out (h : z ∉ ps.map Pt.nm) : knw ps (.str z) = [] := by
  rw [knw_str, List.filter_eq_nil_iff]
  intro q hq e
  exact h (List.mem_map.mpr ⟨q, hq, eq_of_beq e⟩)
theorem knw_d (a : D) : ((ps.map Pt.d).filter fun d => eqv (nmOfD d) a).map secD = (knw ps a).map fun q => .tup (q.modes.map .str) := by
  rw [List.filter_map, List.map_map]; rfl
theorem knw_shp {a : D} (hpo : ∀ p ∈ ps, p.ok) : shp (.lst ((knw ps a).map fun q => D.tup (q.modes.map .str))) = true := by
  have h0 : ∀ q ∈ knw ps a, finsB 0 (q.modes.map .str) = true := fun q hq => finsB_iff.mpr fun d hd => by
    obtain ⟨s, hs, rfl⟩ := List.mem_map.mp hd
    exact okS_b ((hpo q (List.mem_filter.mp hq).1).2.2.2.1 s hs)
  refine shp_of (B := 0) (finsB_iff.mpr fun d hd => ?_) (Nat.le_trans (Nat.succ_le_succ (depths_iff (k := 1).mpr fun d hd => ?_)) (by omega))
  · obtain ⟨q, hq, rfl⟩ := List.mem_map.mp hd
    exact h0 q hq
  · obtain ⟨q, hq, rfl⟩ := List.mem_map.mp hd
    refine Nat.succ_le_succ (depths_iff (k := 0).mpr fun d hd => ?_)
    obtain ⟨s, hs, rfl⟩ := List.mem_map.mp hd
    exact Nat.zero_le _
theorem modeB_knw {p a : D} {q : Pt} {t : List Pt} (h : knw ps p = q :: t) : modeB ps [p, a] = someB q.modes a := by
  cases hs : isS p with
  | false => rw [knw_no hs] at h; cases h
  | true =>
    obtain ⟨z, rfl⟩ := str_of hs
    have hz : z ∈ ps.map Pt.nm := Classical.byContradiction fun q => by rw [knw_out q] at h; cases h
    show (decide (z ∈ ps.map Pt.nm) && someB (modesOf ps z) a) = _
    rw [decide_eq_true hz, Bool.true_and]
    have e : ps.find? (fun q => q.nm == z) = some q := by
      rw [knw_str] at h
      rw [← List.head?_filter, h]; rfl
    unfold modesOf
    rw [e]; rfl
theorem modeB_nil {p a : D} (h : knw ps p = []) : modeB ps [p, a] = false := by
  cases hs : isS p with
  | false => exact modeB_str hs
  | true =>
    obtain ⟨z, rfl⟩ := str_of hs
    have hz : z ∉ ps.map Pt.nm := fun q => by
      obtain ⟨x, hx, e⟩ := List.mem_map.mp q
      have := List.filter_eq_nil_iff.mp (knw_str.symm.trans h) x hx
      exact this (by rw [e]; exact beq_self_eq_true z)
    show (decide (z ∈ ps.map Pt.nm) && someB (modesOf ps z) a) = _
    rw [decide_eq_false hz, Bool.false_and]
theorem clmW_nil {bn : List Str} : clmW bn ps f w [] = false := by
  unfold clmW
  split
  · rfl
  split
  · rfl
  split
  · rfl
  split <;> rfl
set_option maxHeartbeats 8000000 in
theorem l_claim_eq (hbl : bs.length ≤ 1000) (hpl : ps.length ≤ 1000) (hpo : ∀ p ∈ ps, p.ok) : ∀ (m g k n : Nat) (d : D), Fine B k n d → k ≤ 60 → n ≤ 900 → k < m → m ≤ g → G_l_is_claim g [workD x0 bs ps w5, d] = .ok (.bl (clm (bs.map Bo.nm) ps m d)) false [] := by
  intro m
  induction m with
  | zero => intro g k n d _ _ _ h; exact absurd h (Nat.not_lt_zero _)
  | succ m ih =>
    intro g k n d hF hk60 hn hk hg
    obtain ⟨g, rfl⟩ : ∃ q, g = q + 1 := ⟨g - 1, by omega⟩
    have hf := hF.fi
    refine Wo.to ?_
    refine w_def (σ := [.fz (workD x0 bs ps w5), .fz d, .no, .no, .no, .no, .no, .no]) rfl ?_
    unfold F_l_is_claim
    refine s_seq (s_if (t_or (t_not (t_p1 rfl (isi_tuple hf) ?_))))
    cases ht : isTup d with
    | false => exact ifT rfl (ifT rfl (s_seq (s_ret (w_c ⟨[], rfl, by rw [clm_no ht], rfl, rfl⟩))))
    | true =>
      obtain ⟨ds, rfl⟩ := tup_of ht
      obtain ⟨j, rfl, hFs⟩ := hF.items rfl
      refine ifF Bool.false_ne_true (t_or (t_bl (w_pvc (w_p1 rfl (len_ok rfl) ⟨⟨.bl (decide (((ds.length : Nat) : Int) < 2)), false⟩, rfl, _, rfl, ?_⟩))))
      by_cases hl2 : ds.length < 2
      · refine ifT (decide_eq_true (by omega)) (ifT rfl (s_seq (s_ret (w_c ⟨[], rfl, ?_, rfl, rfl⟩))))
        match ds, hl2 with
        | [], _ => rw [clm_nil]
        | [h], _ =>
          cases hs : isS h with
          | false => rw [clm_hd hs]
          | true =>
            obtain ⟨w, rfl⟩ := str_of hs
            have e : clm (bs.map Bo.nm) ps (m + 1) (.tup [.str w]) = clmW (bs.map Bo.nm) ps (clm (bs.map Bo.nm) ps m) w [] := rfl
            rw [e, clmW_nil]
        | _ :: _ :: _, h => exact absurd h (by simp)
      refine ifF (by rw [decide_eq_false (by omega)]; exact Bool.false_ne_true) ?_
      cases ds with
      | nil => exact absurd (by decide) hl2
      | cons h r =>
        refine t_not (t_val (w_pv (w_p1c rfl (pIx_ok rfl (atI_nat (j := 0) rfl)) ⟨_, isi_str (hFs.fi h (by simp)), _, rfl, ?_⟩)))
        cases hs : isS h with
        | false => exact ifT rfl (s_seq (s_ret (w_c ⟨[], rfl, by rw [clm_hd hs], rfl, rfl⟩)))
        | true =>
          obtain ⟨w, rfl⟩ := str_of hs
          have hr : Fines B j n r := hFs.sub (List.sublist_cons_self ..)
          have e1 : clm (bs.map Bo.nm) ps (m + 1) (.tup (.str w :: r)) = clmW (bs.map Bo.nm) ps (clm (bs.map Bo.nm) ps m) w r := rfl
          rw [e1]
          refine ifF Bool.false_ne_true (s_nil ?_)
          refine s_seq (s_par (w_rcons (w_p1c rfl (pIx_ok rfl (atI_nat (j := 0) rfl)) (w_rcons (w_p1 rfl (len_ok rfl) (w_rnil ⟨_, rfl, ?_⟩))))))
          refine s_seq (s_if (t_p1c rfl eq_str ?_))
          by_cases c1 : w = "sum"
          · subst c1
            have e2 : clmW (bs.map Bo.nm) ps (clm (bs.map Bo.nm) ps m) "sum" r = sumB (bs.map Bo.nm) r := rfl
            rw [e2]
            refine ifT rfl (s_seq (s_set (w_and (w_p1c rfl eq_int ⟨_, rfl, ?_⟩))))
            by_cases h3 : r.length = 3
            · obtain ⟨a, x, y, rfl⟩ := three h3
              have fa := hr.fi a (by simp)
              have fx := hr.fi x (by simp)
              have fy := hr.fi y (by simp)
              have la := tlen (hr.get (d := a) (by simp)).1 (by omega)
              have e3 : sumB (bs.map Bo.nm) [a, x, y] = (someB (bs.map Bo.nm) a && (within 0 40 x && within 0 40 y)) := rfl
              rw [e3]
              refine ifT rfl (w_cFF (w_p1c rfl (pIx_ok rfl (atI_nat (j := 1) rfl)) (col_spec (bs := bs) (g := fun b => .str b.nm) hbl (i_ex (w_p1c rfl ixW1 ⟨_, rfl, rfl, fun _ => rfl, F2.mapR (fun p _ => ⟨_, rfl⟩), ⟨_, _, rises_eq (known := bs.map Bo.nm) (by rw [List.map_map]; rfl) fa la, _, rfl, ?_⟩⟩)))))
              refine s_seq (s_ret (w_and (w_var rfl ⟨_, rfl, ?_⟩)))
              cases someB (bs.map Bo.nm) a with
              | false => exact ifF Bool.false_ne_true ⟨[], rfl, rfl, rfl, rfl⟩
              | true =>
                refine ifT rfl (w_and (w_cF (w_p1c rfl (pIx_ok rfl (atI_nat (j := 2) rfl)) ⟨_, _, is_number_eq fx, _, rfl, ?_⟩)))
                cases within 0 40 x with
                | false => exact ifF Bool.false_ne_true ⟨[], rfl, rfl, rfl, rfl⟩
                | true => exact ifT rfl (w_cF (w_p1c rfl (pIx_ok rfl (atI_nat (j := 3) rfl)) ⟨_, _, is_number_eq fy, [], rfl, rfl, rfl, rfl⟩))
            · refine ifF (sz_no (m := 3) h3 rfl) ⟨_, rfl, ?_⟩
              refine s_seq (s_ret (w_and (w_var rfl ⟨_, rfl, ifF Bool.false_ne_true ⟨[], rfl, by rw [sumB_len h3], rfl, rfl⟩⟩)))
          refine ifF (by simpa using c1) (s_nil ?_)
          refine s_seq (s_if (t_p1c rfl eq_str ?_))
          have hne : ∃ a r', r = a :: r' := by
            cases r with
            | nil => exact absurd (show [D.str w].length < 2 from Nat.lt_succ_self 1) hl2
            | cons a r' => exact ⟨a, r', rfl⟩
          obtain ⟨a, r', rfl⟩ := hne
          have fa := hr.fi a (by simp)
          by_cases c2 : w = "mode"
          · subst c2
            have e2 : clmW (bs.map Bo.nm) ps (clm (bs.map Bo.nm) ps m) "mode" (a :: r') = modeB ps (a :: r') := rfl
            rw [e2]
            have sa : shp a = true := shp_of fa (Nat.le_trans (hr.dp a (by simp)) (by omega))
            refine ifT rfl (s_seq (s_set (lc_filt (fun d => eqv (nmOfD d) a) secD (i_ex (w_p1c rfl ixW2 ⟨_, rfl, rfl, by rw [List.length_map]; omega, fun _ => rfl, fun d hd => ?_, fun d hd _ => ?_, ?_⟩)))))
            · obtain ⟨p, hp, rfl⟩ := List.mem_map.mp hd
              have sn : shp (.str p.nm) = true := shp_of (B := 0) (okS_b (hpo p hp).1) (by show 0 ≤ 64; omega)
              exact t_bl (w_pvv (w_p1c (r := ⟨.str p.nm, false⟩) rfl rfl (w_p1c rfl (pIx_ok rfl (atI_nat (j := 1) rfl)) ⟨_, eq_any sn sa, _, rfl, rfl, rfl⟩)))
            · obtain ⟨p, hp, rfl⟩ := List.mem_map.mp hd
              exact w_p1c rfl (pIx_ok rfl (atI_nat (j := 1) rfl)) ⟨rfl, rfl⟩
            rw [knw_d]
            refine ⟨_, rfl, ?_⟩
            refine s_seq (s_ret (w_and (w_p1c rfl eq_int ⟨_, rfl, ?_⟩)))
            by_cases h2 : (a :: r').length = 2
            · obtain ⟨b, e⟩ : ∃ b, r' = [b] := by
                obtain ⟨x, y, q⟩ := two h2
                injection q with _ q
                exact ⟨y, q⟩
              subst e
              have fb := hr.fi b (by simp)
              have lb := tlen (hr.get (d := b) (by simp)).1 (by omega)
              refine ifT rfl (w_and (w_psv rfl (w_lst (w_dnil ⟨ln_ rfl, _, _, rfl, ne_nil (knw_shp hpo), _, rfl, ?_⟩))))
              cases hk2 : knw ps a with
              | nil => exact ifF Bool.false_ne_true ⟨[], rfl, by rw [modeB_nil hk2], rfl, rfl⟩
              | cons q t =>
                refine ifT rfl (w_cFF (w_p1c rfl (pIx_ok rfl (atI_nat (j := 2) rfl)) (w_p1c rfl (pIx_ok rfl (atI_nat (j := 0) rfl)) ⟨_, _, rises_eq (known := q.modes) rfl fb lb, [], rfl, by rw [modeB_knw hk2], rfl, rfl⟩)))
            · refine ifF (sz_no (m := 2) h2 rfl) ⟨[], rfl, by rw [modeB_len h2], rfl, rfl⟩
          refine ifF (by simpa using c2) (s_nil ?_)
          refine s_seq (s_if (t_p1c rfl eq_str ?_))
          by_cases c3 : w = "not"
          · subst c3
            have e2 : clmW (bs.map Bo.nm) ps (clm (bs.map Bo.nm) ps m) "not" (a :: r') = notB (clm (bs.map Bo.nm) ps m) (a :: r') := rfl
            rw [e2]
            refine ifT rfl (s_seq (s_ret (w_and (w_p1c rfl eq_int ⟨_, rfl, ?_⟩))))
            by_cases h1 : (a :: r').length = 1
            · have e : r' = [] := by simpa using h1
              subst e
              exact ifT rfl (w_cFF (w_var rfl (w_p1c rfl (pIx_ok rfl (atI_nat (j := 1) rfl)) ⟨_, _, ih g j (n - 1) a (hr.get (by simp)).1 (by omega) (by omega) (by omega) (by omega), [], rfl, rfl, rfl, rfl⟩)))
            · refine ifF (sz_no (m := 1) h1 rfl) ⟨[], rfl, by rw [notB_len h1], rfl, rfl⟩
          refine ifF (by simpa using c3) (s_nil ?_)
          have e2 : clmW (bs.map Bo.nm) ps (clm (bs.map Bo.nm) ps m) w (a :: r') = if w = "all" ∨ w = "any" then allB (clm (bs.map Bo.nm) ps m) (a :: r') else false := by
            unfold clmW
            rw [if_neg c1, if_neg c2, if_neg c3]
          rw [e2]
          refine s_seq (s_if (t_or (t_bl (w_psv rfl (w_tup (w_dcons (w_c (w_dcons (w_c (w_dnil ⟨ln_ rfl, _, _, rfl, notIn_ok (zs := ["all", "any"]) rfl, _, rfl, ?_⟩))))))))))
          by_cases c4 : w = "all" ∨ w = "any"
          · have hm : w ∈ (["all", "any"] : List Str) := by simpa using c4
            rw [if_pos c4]
            refine ifF (by rw [decide_eq_true hm]; exact Bool.false_ne_true) (t_or (t_bl (w_p1c rfl ne_int ⟨_, rfl, ?_⟩)))
            by_cases h1 : (a :: r').length = 1
            · have e : r' = [] := by simpa using h1
              subst e
              refine ifF Bool.false_ne_true (t_not (t_val (w_pv (w_p1c rfl (pIx_ok rfl (atI_nat (j := 1) rfl)) ⟨_, isi_tuple fa, _, rfl, ?_⟩))))
              cases hta : isTup a with
              | false => exact ifT rfl (s_seq (s_ret (w_c ⟨[], rfl, by rw [allB_tup hta], rfl, rfl⟩)))
              | true =>
                obtain ⟨xs, rfl⟩ := tup_of hta
                obtain ⟨i, rfl, hX⟩ := (hr.get (d := .tup xs) (by simp)).1.items rfl
                have hlx := hX.len
                refine ifF Bool.false_ne_true (s_nil ?_)
                refine s_seq (s_ret (w_pv (lc_gen (i_ex (w_p1c rfl (pIx_ok rfl (atI_nat (j := 1) rfl)) ⟨_, rfl, rfl, by omega, fun _ => rfl, xs.map fun x => .bl (clm (bs.map Bo.nm) ps m x), ?_, ⟨_, all_ok _ _, [], rfl, rfl, rfl, rfl⟩⟩)))))
                exact F2.mapR fun x hx => w_c2 rfl rfl (ih g i (n - 1 - 1) x (hX.get hx).1 (by omega) (by omega) (by omega) (by omega)) ⟨rfl, rfl⟩
            · refine ifT (sz_ye (m := 1) h1 rfl) (ifT rfl (s_seq (s_ret (w_c ⟨[], rfl, by rw [allB_len h1], rfl, rfl⟩))))
          · have hm : w ∉ (["all", "any"] : List Str) := by simpa using c4
            rw [if_neg c4]
            exact ifT (by rw [decide_eq_false hm]; rfl) (ifT rfl (s_seq (s_ret (w_c ⟨[], rfl, rfl, rfl, rfl⟩))))
end
end L26
set_option autoImplicit false
set_option Elab.async false
set_option linter.all false
set_option maxRecDepth 100000
set_option pp.maxSteps 500
set_option pp.deepTerms false
namespace L26
open PySem L2 Wt
/-! ### draws, in one step -/
section
variable {n : Nat} {xs : List D} {rest : List Sl} {P : RV → Stt → Prop} {room : Int}
theorem w_take (hB : Bx n (.lst xs)) (hn : n < 1000000000) (h1 : 0 < room) (h2 : room ≤ 10000000) (k : ∀ (q : Nat) (ys : List D), (q : Int) < room → Bx (n + 1) (.lst ys) → P ⟨.int q, false⟩ (.ln (.lst ys) :: rest)) : W (fCall (G_l_take 3) [.s 0, .v (fC (.int room))] (.ln (.lst xs) :: rest)) P := by
  refine w_call (w_s rfl (w_v (w_c (w_nil ⟨rfl, _, rfl, (take_spec (k := 2) hB hn h1 h2).mono ?_⟩))))
  rintro _ _ _ ⟨q, d', rfl, rfl, rfl, hB', q0, q1⟩
  obtain ⟨ys, rfl⟩ := hB'.lst
  obtain ⟨q, rfl⟩ := Int.eq_ofNat_of_zero_le q0
  exact ⟨_, rfl, k q ys q1 hB'⟩
/-- the room by an expression -/
theorem w_takeF {F : Ex} (hB : Bx n (.lst xs)) (hn : n < 1000000000) (h : W (F (.ln (.lst xs) :: rest)) fun r s => ∃ (room : Int) (rest' : List Sl), r.d = .int room ∧ s = .ln (.lst xs) :: rest' ∧ 0 < room ∧ room ≤ 10000000 ∧ ∀ (q : Nat) (ys : List D), (q : Int) < room → Bx (n + 1) (.lst ys) → P ⟨.int q, false⟩ (.ln (.lst ys) :: rest')) :
    W (fCall (G_l_take 3) [.s 0, .v F] (.ln (.lst xs) :: rest)) P := by
  refine w_call (w_s rfl (w_v (h.mono ?_)))
  rintro r s ⟨room, rest', er, rfl, h1, h2, k⟩
  refine w_nil ?_
  rw [er]
  refine ⟨rfl, _, rfl, (take_spec (k := 2) hB hn h1 h2).mono ?_⟩
  rintro _ _ _ ⟨q, d', rfl, rfl, rfl, hB', q0, q1⟩
  obtain ⟨ys, rfl⟩ := hB'.lst
  obtain ⟨q, rfl⟩ := Int.eq_ofNat_of_zero_le q0
  exact ⟨_, rfl, k q ys q1 hB'⟩
/-- one of a list's items -/
theorem w_of {F : Ex} (hB : Bx n (.lst xs)) (hn : n < 1000000000) (h : W (F (.ln (.lst xs) :: rest)) fun r s => ∃ (ds : List D) (rest' : List Sl), itemsOf r.d = some ds ∧ s = .ln (.lst xs) :: rest' ∧ 0 < ds.length ∧ ds.length ≤ 10000000 ∧ ∀ (v : D) (ys : List D), v ∈ ds → Bx (n + 1) (.lst ys) → P ⟨v, false⟩ (.ln (.lst ys) :: rest')) :
    W (fCall G_l_of [.s 0, .v F] (.ln (.lst xs) :: rest)) P := by
  refine w_call (w_s rfl (w_v (h.mono ?_)))
  rintro r s ⟨ds, rest', er, rfl, h1, h2, k⟩
  refine w_nil ?_
  refine ⟨rfl, _, rfl, (of_spec (k := 0) hB hn er h1 h2).mono ?_⟩
  rintro v _ _ ⟨rfl, hv, d', rfl, hB'⟩
  obtain ⟨ys, rfl⟩ := hB'.lst
  exact ⟨_, rfl, k v ys hv hB'⟩
end
theorem at_nat {ds : List D} {q : Nat} (h : (q : Int) < ds.length) : ∃ x, L2.atI ds (q : Int) = some x ∧ x ∈ ds := by
  obtain ⟨x, h1, h2, _⟩ := atI_ok (xs := ds) (i := (q : Int)) (by omega) h
  exact ⟨x, h1, h2⟩
end L26
set_option autoImplicit false
set_option Elab.async false
set_option linter.all false
set_option maxRecDepth 100000
set_option pp.maxSteps 500
set_option pp.deepTerms false
namespace L26
open PySem L2 Wt
/-! ### claims drawn -/
section
variable {x0 : D} {r w5 : List D} {bs : List Bo} {ps : List Pt}
theorem strs_fines {B : Nat} : ∀ zs : List Str, (∀ z ∈ zs, okS 8 z) → Fines B 0 (9 * zs.length) (zs.map .str)
  | [], _ => .nil
  | z :: zs, h => by
    have ih := strs_fines (B := B) zs fun y hy => h y (List.mem_cons_of_mem _ hy)
    exact Fines.cons (okS_fin (h z (List.mem_cons_self ..))) ih (by rw [List.length_cons]; omega)
theorem word_fine {B k n : Nat} {w : Str} (h : okS n w) : Fine B k n (.str w) := (okS_fin h).mono (Nat.le_refl _) (Nat.zero_le _) (Nat.le_refl _)
theorem pList_ok {d : D} {ds : List D} (e : itemsOf d = some ds) : pList [d] = some ⟨.lst ds, true⟩ := by
  cases d with
  | lst xs => cases e; rfl
  | tup xs => cases e; rfl
  | _ => cases e
def ClmP (W0 : D) (h : Nat) : Prop := ∀ (g b : Nat) (d : D), Bx b d → b + 10 * 2 ^ h < 1000000 → h ≤ g → Wo (G_l_claim g [d, W0, .int (h : Nat)]) fun v fr refs => ∃ d', fr = false ∧ refs = [d'] ∧ Fine 1000 (2 * h) (25 * 2 ^ h - 7) v ∧ Bx (b + (10 * 2 ^ h - 3)) d'
theorem pow_pos (h : Nat) : 1 ≤ 2 ^ h := Nat.one_le_two_pow
set_option maxHeartbeats 8000000 in
theorem claim_step {h : Nat} (hb0 : bs ≠ []) (hbl : bs.length ≤ 3) (hbo : ∀ b ∈ bs, b.ok) (hp0 : ps ≠ []) (hpl : ps.length ≤ 4) (hpo : ∀ p ∈ ps, p.ok) (hh : h ≤ 10) (IH : 1 ≤ h → ClmP (workD x0 bs ps w5) h) : ClmP (workD x0 bs ps w5) (h + 1) := by
  intro g b d hB hb hg
  obtain ⟨g, rfl⟩ : ∃ q, g = q + 1 := ⟨g - 1, by omega⟩
  obtain ⟨xs, rfl⟩ := hB.lst
  have hP := pow_pos h
  have hP1 : 2 ^ h ≤ 1024 := Nat.pow_le_pow_right (n := 2) (by decide) hh
  have ep : 2 ^ (h + 1) = 2 * 2 ^ h := by rw [Nat.pow_succ]; omega
  rw [ep] at hb ⊢
  have hge : 1 ≤ h → 2 ≤ 2 ^ h := fun q => Nat.pow_le_pow_right (n := 2) (by decide) q
  have eh : ((((h + 1 : Nat) : Int)) - 1) = (h : Nat) := by omega
  refine w_def (σ := [.ln (.lst xs), .fz (workD x0 bs ps w5), .fz (.int ((h + 1 : Nat) : Int)), .no, .no, .no, .no, .no, .no, .no]) rfl ?_
  unfold F_l_claim
  refine s_seq (s_set (W.mono (Q := fun r s => ∃ (way : Nat) (ys : List D), r = ⟨.int way, false⟩ ∧ (way < 2 ∨ 1 ≤ h) ∧ s = [.ln (.lst ys), .fz (workD x0 bs ps w5), .fz (.int ((h + 1 : Nat) : Int)), .no, .no, .no, .no, .no, .no, .no] ∧ Bx (b + 1) (.lst ys)) ?_ ?_))
  · refine w_if (t_bl (w_p1c (r := ⟨.bl (decide ((1 : Int) < ((h + 1 : Nat) : Int))), false⟩) rfl rfl ⟨_, rfl, ?_⟩))
    by_cases h1 : 1 ≤ h
    · refine ifT (decide_eq_true (by omega)) (w_take hB (by omega) (by decide) (by decide) fun q ys hq hB' => ⟨q, ys, rfl, .inr h1, rfl, hB'⟩)
    · refine ifF (by rw [decide_eq_false (by omega)]; exact Bool.false_ne_true) (w_take hB (by omega) (by decide) (by decide) fun q ys hq hB' => ⟨q, ys, rfl, .inl (by omega), rfl, hB'⟩)
  rintro _ _ ⟨way, ys, rfl, hway, rfl, hB1⟩
  refine ⟨_, rfl, ?_⟩
  refine s_seq (s_if (t_p1c rfl eq_int ?_))
  by_cases c0 : way = 0
  · subst c0
    refine ifT rfl (s_seq (s_set (w_take hB1 (by omega) (by decide) (by decide) fun low y2 hlow hB2 => ⟨_, rfl, ?_⟩)))
    refine s_seq (s_ret (w_tup (w_dcons (w_c (w_dcons (w_pv (w_call (w_s rfl (w_v (col_spec (bs := bs) (g := fun b => .str b.nm) (by omega) (i_ex (w_p1c rfl ixW1 ⟨_, rfl, rfl, fun _ => rfl, F2.mapR (fun p _ => ⟨_, rfl⟩), ?_⟩))))))))))))
    refine w_v (w_c (w_nil ⟨rfl, _, rfl, (some_spec hB2 (by rw [List.length_map]; omega) (by rw [List.length_map]; omega) (by decide)).mono ?_⟩))
    rintro _ _ _ ⟨es, d', rfl, hsub, _, rfl, hB3⟩
    obtain ⟨y3, rfl⟩ := hB3.lst
    have en : bs.map (fun b => D.str b.nm) = (bs.map Bo.nm).map .str := by rw [List.map_map]; rfl
    rw [en] at hsub
    obtain ⟨zs, rfl, hzs⟩ := sub_strs hsub
    have hzl := hzs.length_le
    rw [List.length_map] at hzl hB3
    have hzo : ∀ z ∈ zs, okS 8 z := fun z hz => by
      obtain ⟨x, hx, rfl⟩ := List.mem_map.mp (hzs.subset hz)
      exact (hbo x hx).1
    refine ⟨_, rfl, _, pTuple_ok rfl, ?_⟩
    refine w_dcons (w_var rfl (w_dcons (w_psv rfl (w_take hB3 (by omega) (by decide) (by decide) fun q y4 hq hB4 => ⟨_, _, rfl, rfl, w_dnil ⟨ln_ rfl, [_], rfl, _, rfl, rfl, ?_, hB4.mono (by omega)⟩⟩))))
    have f1 : Fine 1000 1 27 (.tup (zs.map .str)) := .tup ((strs_fines zs hzo).mono (Nat.le_refl _) (Nat.le_refl _) (by omega))
    have f2 : Fines 1000 1 34 [.str "sum", .tup (zs.map .str), .int (low : Int), .int ((low : Int) + (q : Int))] :=
      .cons (a := 3) (b := 30) (word_fine ⟨by decide, by decide⟩) (.cons (b := 2) f1 (.cons (a := 0) (b := 1) (int_fin (by omega)) (.cons (a := 0) (b := 0) (int_fin (by omega)) .nil (by omega)) (by omega)) (by omega)) (by omega)
    exact (Fine.tup f2).mono (Nat.le_refl _) (by omega) (by omega)
  refine ifF (by simpa using c0) (s_nil ?_)
  refine s_seq (s_if (t_p1c rfl eq_int ?_))
  by_cases c1 : way = 1
  · subst c1
    have hpp : 0 < (ps.map Pt.d).length := by
      rw [List.length_map]
      exact List.length_pos_iff.mpr hp0
    refine ifT rfl (s_seq (s_set (w_of hB1 (by omega) (w_p1c rfl ixW2 ⟨_, _, rfl, rfl, hpp, by rw [List.length_map]; omega, fun v y2 hv hB2 => ?_⟩))))
    obtain ⟨p, hp, rfl⟩ := List.mem_map.mp hv
    have hpk := hpo p hp
    have hml : p.modes.length ≤ 3 := hpk.2.2.1
    refine ⟨_, rfl, ?_⟩
    refine s_seq (s_ret (w_tup (w_dcons (w_c (w_dcons (w_p1c (r := ⟨.str p.nm, false⟩) rfl rfl (w_dcons (w_pv (w_pv (w_call (w_s rfl (w_v (w_pv (w_p1c (r := ⟨.tup (p.modes.map .str), false⟩) rfl rfl ⟨_, pList_ok rfl, ?_⟩))))))))))))))
    refine w_v (w_c (w_nil ⟨rfl, _, rfl, (some_spec hB2 (by rw [List.length_map]; omega) (by rw [List.length_map]; omega) (by decide)).mono ?_⟩))
    rintro _ _ _ ⟨es, d', rfl, hsub, _, rfl, hB3⟩
    obtain ⟨y3, rfl⟩ := hB3.lst
    obtain ⟨zs, rfl, hzs⟩ := sub_strs hsub
    have hzl := hzs.length_le
    rw [List.length_map] at hB3
    obtain ⟨us, hus, hup⟩ := sorted_strs (ys := zs) (by omega)
    have hul := hup.length_eq
    have huo : ∀ z ∈ us, okS 8 z := fun z hz => hpk.2.2.2.1 z (hzs.subset (hup.mem_iff.mp hz))
    refine ⟨_, rfl, _, hus, _, pTuple_ok rfl, w_dnil ⟨ln_ rfl, [_], rfl, _, rfl, rfl, ?_, hB3.mono (by omega)⟩⟩
    have f1 : Fine 1000 1 27 (.tup (us.map .str)) := .tup ((strs_fines us huo).mono (Nat.le_refl _) (Nat.le_refl _) (by omega))
    have f2 : Fines 1000 1 43 [.str "mode", .str p.nm, .tup (us.map .str)] :=
      .cons (a := 4) (b := 37) (word_fine ⟨by decide, by decide⟩) (.cons (a := 8) (b := 28) (word_fine hpk.1) (.cons (b := 0) f1 .nil (by omega)) (by omega)) (by omega)
    exact (Fine.tup f2).mono (Nat.le_refl _) (by omega) (by omega)
  refine ifF (by simpa using (by omega : ¬ ((way : Int) = 1))) (s_nil ?_)
  have h1 : 1 ≤ h := by omega
  have hP2 := hge h1
  have IH := IH h1
  refine s_seq (s_if (t_p1c rfl eq_int ?_))
  by_cases c2 : way = 2
  · subst c2
    refine ifT rfl (s_seq (s_ret (w_tup (w_dcons (w_c (w_dcons (w_call (w_s rfl (w_v (w_var rfl (w_v (w_p1c (r := ⟨.int (h : Nat), false⟩) rfl (by show some (⟨.int ((((h + 1 : Nat) : Int)) - 1), false⟩ : RV) = _; rw [eh]) (w_nil ⟨rfl, _, rfl, ?_⟩)))))))))))))
    have := IH g (b + 1) (.lst ys) hB1 (by omega) (by omega)
    refine this.mono ?_
    rintro v _ _ ⟨d', rfl, rfl, hFv, hB2⟩
    obtain ⟨y2, rfl⟩ := hB2.lst
    refine ⟨_, rfl, w_dnil ⟨ln_ rfl, [_], rfl, _, rfl, rfl, ?_, hB2.mono (by omega)⟩⟩
    have f2 : Fines 1000 (2 * h) (25 * 2 ^ h + 10) [.str "not", v] := .cons (a := 3) (b := 25 * 2 ^ h - 7 + 1) (word_fine ⟨by decide, by decide⟩) (.cons (b := 0) hFv .nil (by omega)) (by omega)
    exact (Fine.tup f2).mono (Nat.le_refl _) (by omega) (by omega)
  refine ifF (by simpa using (by omega : ¬ ((way : Int) = 2))) (s_nil ?_)
  refine s_seq (s_par (w_rcons (w_of hB1 (by omega) (w_lst (w_dcons (w_c (w_dcons (w_c (w_dnil ⟨ln_ rfl, _, _, rfl, rfl, by decide, by decide, fun v y2 hv hB2 => ?_⟩)))))))))
  refine w_rcons (w_take hB2 (by omega) (by decide) (by decide) fun sz y3 hsz hB3 => w_rnil ⟨_, rfl, ?_⟩)
  have hvw : ∃ w, v = .str w ∧ okS 3 w := by
    simp only [List.mem_cons, List.not_mem_nil, or_false] at hv
    rcases hv with rfl | rfl
    · exact ⟨_, rfl, by decide, by decide⟩
    · exact ⟨_, rfl, by decide, by decide⟩
  obtain ⟨w, rfl, hw⟩ := hvw
  refine s_seq (s_ret (w_tup (w_dcons (w_var rfl (w_dcons (w_pv (w_lc (i_rng (w_var rfl ⟨_, rfl, small_of (by omega) (by omega), rfl, fun i acc s => acc.length = i ∧ Fines 1000 (2 * h) (i * (25 * 2 ^ h - 6)) acc ∧ ∃ (ys : List D) (a : Sl), s = [.ln (.lst ys), .fz (workD x0 bs ps w5), .fz (.int ((h + 1 : Nat) : Int)), .fz (.int way), .no, .no, .fz (.str w), .fz (.int sz), a, .no] ∧ Free a ∧ Bx (b + 3 + i * (10 * 2 ^ h - 3)) (.lst ys), ⟨rfl, Fines.nil.mono (Nat.le_refl _) (Nat.zero_le _) (Nat.zero_le _), _, _, rfl, .no, hB3.mono (by omega)⟩, ?_, ?_⟩)))))))))
  · rintro i d acc s hd ⟨hal, hFa, ys, a, rfl, fa, hBi⟩
    obtain ⟨hi, rfl⟩ := rangeD_get hd
    have hi2 : i < 2 := by
      have : i < sz := hi
      omega
    have hi01 : i = 0 ∨ i = 1 := by omega
    refine ⟨_, rfl, .mk (ifT rfl ?_)⟩
    refine w_call (w_s rfl (w_v (w_var rfl (w_v (w_p1c (r := ⟨.int (h : Nat), false⟩) rfl (by show some (⟨.int ((((h + 1 : Nat) : Int)) - 1), false⟩ : RV) = _; rw [eh]) (w_nil ⟨rfl, _, rfl, ?_⟩))))))
    refine (IH g _ _ hBi (by rcases hi01 with rfl | rfl <;> omega) (by omega)).mono ?_
    rintro v _ _ ⟨d', rfl, rfl, hFv, hB4⟩
    obtain ⟨y4, rfl⟩ := hB4.lst
    refine ⟨_, rfl, lenLt (by omega), by rw [List.length_append, hal]; rfl, ?_, _, _, rfl, .fz, hB4.mono ?_⟩
    · exact Fines.append hFa (Fines.cons (b := 0) hFv .nil (Nat.le_refl _)) (by rcases hi01 with rfl | rfl <;> omega)
    · rcases hi01 with rfl | rfl <;> omega
  · rintro acc s ⟨hal, hFa, ys, a, rfl, fa, hBi⟩
    rw [rangeD_lenN] at hal hFa hBi
    have hs3 : sz = 0 ∨ sz = 1 ∨ sz = 2 := by omega
    refine ⟨_, pTuple_ok rfl, w_dnil ⟨ln_ rfl, [_], rfl, _, rfl, rfl, ?_, hBi.mono ?_⟩⟩
    · have f1 : Fines 1000 (2 * h) (2 * (25 * 2 ^ h - 6)) acc := hFa.mono (Nat.le_refl _) (Nat.le_refl _) (by rcases hs3 with rfl | rfl | rfl <;> omega)
      have f2 : Fines 1000 (2 * h + 1) (50 * 2 ^ h - 7) [.str w, .tup acc] := .cons (a := 3) (b := 2 * (25 * 2 ^ h - 6) + 1) (word_fine hw) (.cons (b := 0) (.tup f1) .nil (by omega)) (by omega)
      exact (Fine.tup f2).mono (Nat.le_refl _) (by omega) (by omega)
    · rcases hs3 with rfl | rfl | rfl <;> omega
theorem claim_spec (hb0 : bs ≠ []) (hbl : bs.length ≤ 3) (hbo : ∀ b ∈ bs, b.ok) (hp0 : ps ≠ []) (hpl : ps.length ≤ 4) (hpo : ∀ p ∈ ps, p.ok) : ∀ h, h ≤ 10 → ClmP (workD x0 bs ps w5) (h + 1)
  | 0, _ => claim_step hb0 hbl hbo hp0 hpl hpo (by omega) fun q => absurd q (by omega)
  | h + 1, e => claim_step hb0 hbl hbo hp0 hpl hpo (by omega) fun _ => claim_spec hb0 hbl hbo hp0 hpl hpo h (by omega)
end
end L26
set_option autoImplicit false
set_option Elab.async false
set_option linter.all false
set_option maxRecDepth 100000
set_option pp.maxSteps 500
set_option pp.deepTerms false
namespace L26
open PySem L2 Wt
/-! ### things bent -/
def oddL : List D := [.non, .bl true, .bl false, .int 0, .int 40, .int 41, .int (-1), .str "", .str "sum", .str "not", .str "any", .tup [], .lst [], .tup [.int 0], .tup [.str "a", .str "b"], .tup [.tup [.str "all", .tup []]]]
theorem odd_fine : ∀ x ∈ oddL, Fine 1000 3 30 x := by
  have h : oddL.all (fun x => finB 1000 x && decide ((toP x).depth ≤ 3) && decide ((toP x).bulk ≤ 30)) = true := by decide +kernel
  intro x hx
  have := List.all_eq_true.mp h x hx
  rw [Bool.and_eq_true, Bool.and_eq_true] at this
  exact ⟨this.1.1, of_decide_eq_true this.1.2, of_decide_eq_true this.2⟩
theorem isi_tl {B : Nat} {d : D} (h : finB B d = true) : pIsi ["tuple", "list"] [d] = some ⟨.bl (isTup d || isLs d), false⟩ := by cases d <;> first | rfl | cases h
theorem seq_items {d : D} (h : (isTup d || isLs d) = true) : ∃ ds, itemsOf d = some ds := by
  cases d <;> first | exact ⟨_, rfl⟩ | cases h
theorem Fines.set2 {B k n m : Nat} {ds : List D} {i : Nat} {d e : D} (h : Fines B k n ds) (hi : ds[i]? = some e) (hd : Fine B k m d) : Fines B k (n + m - (toP e).bulk) (ds.set i d) where
  fi := fun x hx => (List.mem_or_eq_of_mem_set hx).elim (h.fi x) fun q => q ▸ hd.fi
  dp := fun x hx => (List.mem_or_eq_of_mem_set hx).elim (h.dp x) fun q => q ▸ hd.dp
  bk := by
    have h1 := set_sum (f := fun d : D => (toP d).bulk + 1) (x := d) hi
    have h2 := h.bk
    have h3 := hd.bk
    omega
theorem cut_sub (ds : List D) (lo hi : Option Int) : (cutD ds lo hi).Sublist ds := (List.take_sublist _ _).trans (List.drop_sublist _ _)
def BentP (l : Nat) : Prop := ∀ (g k n b : Nat) (d thing : D), Fine 1000 k n thing → n ≤ 400 → Bx b d → b + 5 * (l + 1) < 1000000 → l + 1 ≤ g → Wo (G_l_bent g [d, thing, .int (l : Nat)]) fun v fr refs => ∃ d', fr = false ∧ refs = [d'] ∧ Fine 1000 (k + 3) (2 * n + 30) v ∧ Bx (b + 5 * (l + 1)) d'
theorem eq_zero' {n : Nat} : pEq [.int ((n : Nat) : Int), .int 0] = some ⟨.bl (decide (n = 0)), false⟩ := eq_zero
set_option maxHeartbeats 8000000 in
theorem bent_step {l : Nat} (IH : ∀ j, l = j + 1 → BentP j) : BentP l := by
  intro g k n b d thing hF hn hB hb hg
  obtain ⟨g, rfl⟩ : ∃ q, g = q + 1 := ⟨g - 1, by omega⟩
  have hf := hF.fi
  obtain ⟨xs, rfl⟩ := hB.lst
  refine w_def (σ := [.ln (.lst xs), .fz thing, .fz (.int ((l : Nat) : Int)), .no, .no, .no, .no]) rfl ?_
  unfold F_l_bent
  refine s_seq (s_set (w_lst ?_))
  refine w_dcons (w_c (w_dcons (w_c (w_dcons (w_c (w_dcons (w_c (w_dcons (w_c (w_dcons (w_c ?_)))))))))))
  refine w_dcons (w_pv (w_c ⟨_, rfl, ?_⟩))
  refine w_dcons (w_c (w_dcons (w_c (w_dcons (w_c (w_dcons (w_c ?_)))))))
  refine w_dcons (w_tup (w_dnil ⟨ln_ rfl, ?_⟩))
  refine w_dcons (w_lst (w_dnil ⟨ln_ rfl, ?_⟩))
  refine w_dcons (w_tup (w_dcons (w_c (w_dnil ⟨ln_ rfl, ?_⟩))))
  refine w_dcons (w_tup (w_dcons (w_c (w_dcons (w_c (w_dnil ⟨ln_ rfl, ?_⟩))))))
  refine w_dcons (w_tup (w_dcons (w_tup (w_dcons (w_c (w_dcons (w_tup (w_dnil ⟨ln_ rfl, w_dnil ⟨ln_ rfl, w_dnil ⟨ln_ rfl, ?_⟩⟩⟩))))))))
  refine w_dnil ⟨ln_ rfl, ?_⟩
  refine ⟨[.ln (.lst xs), .fz thing, .fz (.int ((l : Nat) : Int)), .ow (.lst oddL), .no, .no, .no], rfl, ?_⟩
  refine s_seq (s_if (W.mono (Q := fun t s => (t = false → ∃ ds, itemsOf thing = some ds ∧ 0 < ds.length ∧ 0 < l) ∧ ∃ ys, s = [.ln (.lst ys), .fz thing, .fz (.int ((l : Nat) : Int)), .ow (.lst oddL), .no, .no, .no] ∧ Bx (b + 1) (.lst ys)) ?_ ?_))
  · refine t_or (t_not (t_p1 rfl (isi_tl hf) ?_))
    cases hs : isTup thing || isLs thing with
    | false => exact ifT rfl ⟨fun e => (nomatch e), _, rfl, hB.mono (by omega)⟩
    | true =>
      obtain ⟨ds, hds⟩ := seq_items hs
      refine ifF Bool.false_ne_true (t_or (t_bl (w_pvc (w_p1 rfl (len_ok hds) ⟨_, eq_zero, _, rfl, ?_⟩))))
      by_cases h0 : ds.length = 0
      · exact ifT (decide_eq_true h0) ⟨fun e => (nomatch e), _, rfl, hB.mono (by omega)⟩
      refine ifF (by rw [decide_eq_false h0]; exact Bool.false_ne_true) (t_or (t_p1c rfl eq_zero' ?_))
      by_cases h1 : l = 0
      · exact ifT (decide_eq_true h1) ⟨fun e => (nomatch e), _, rfl, hB.mono (by omega)⟩
      exact ifF (by rw [decide_eq_false h1]; exact Bool.false_ne_true) (t_bl (w_pvc (w_take hB (by omega) (by decide) (by decide) fun q ys hq hB' => ⟨_, eq_int, _, rfl, fun _ => ⟨ds, hds, by omega, by omega⟩, _, rfl, hB'⟩)))
  rintro t s ⟨ht, ys, rfl, hB'⟩
  cases t with
  | true =>
    refine ifT rfl (s_seq (s_ret (w_of hB' (by omega) (w_varO rfl ⟨oddL, _, rfl, rfl, by decide, by decide, fun v y2 hv hB2 => ?_⟩))))
    exact ⟨[_], rfl, _, rfl, rfl, (odd_fine v hv).mono (Nat.le_refl _) (by omega) (by omega), hB2.mono (by omega)⟩
  | false =>
    obtain ⟨ds, hds, hl, hl0⟩ := ht rfl
    obtain ⟨j, rfl, hFs⟩ := hF.items hds
    have hlen := hFs.len
    obtain ⟨l', rfl⟩ : ∃ q, l = q + 1 := ⟨l - 1, by omega⟩
    have eh : ((((l' + 1 : Nat) : Int)) - 1) = (l' : Nat) := by omega
    refine ifF Bool.false_ne_true (s_nil ?_)
    refine s_seq (s_par (w_rcons (w_p1 rfl (pList_ok hds) ?_)))
    refine w_rcons (w_takeF hB' (by omega) (w_p1 rfl (len_ok hds) ⟨_, _, rfl, rfl, by omega, by omega, fun at_ y2 hat hB2 => ?_⟩))
    refine w_rcons (w_take hB2 (by omega) (by decide) (by decide) fun way y3 hway hB3 => ?_)
    refine w_rnil ⟨[.ln (.lst y3), .fz thing, .fz (.int ((l' + 1 : Nat) : Int)), .ow (.lst oddL), .ow (.lst ds), .fz (.int at_), .fz (.int way)], rfl, ?_⟩
    have hlt : at_ < ds.length := by omega
    have hat2 : ds[at_]? = some ds[at_] := List.getElem?_eq_getElem hlt
    have hxm : ds[at_] ∈ ds := List.getElem_mem hlt
    have hix : pIx [.lst ds, .int at_] = some ⟨ds[at_], false⟩ := pIx_ok rfl (atI_nat hat2)
    have hxb := (hFs.get hxm).1.bk
    have hn1 := (hFs.get hxm).2
    refine s_seq (W.mono (Q := fun f s => f = .nx ∧ ∃ es ys, s = [.ln (.lst ys), .fz thing, .fz (.int ((l' + 1 : Nat) : Int)), .ow (.lst oddL), .ow (.lst es), .fz (.int at_), .fz (.int way)] ∧ Fines 1000 (j + 3) (2 * n + 30) es ∧ Bx (b + 5 * (l' + 1 + 1)) (.lst ys)) ?_ ?_)
    · refine s_if (t_p1c rfl rfl ?_)
      by_cases c3 : (way : Int) < 3
      · refine ifT (decide_eq_true c3) ?_
        refine s_seq (s_put (w_call (w_s rfl (w_v (w_p2 rfl rfl hix (w_v (w_p1c (r := ⟨.int (l' : Nat), false⟩) rfl (by show some (⟨.int ((((l' + 1 : Nat) : Int)) - 1), false⟩ : RV) = _; rw [eh]) (w_nil ⟨rfl, _, rfl, ?_⟩))))))))
        have hFx : Fine 1000 j (toP ds[at_]).bulk ds[at_] := ⟨hFs.fi _ hxm, hFs.dp _ hxm, Nat.le_refl _⟩
        refine (IH l' rfl g j _ _ _ _ hFx (by omega) hB3 (by omega) (by omega)).mono ?_
        rintro v _ _ ⟨d', rfl, rfl, hFv, hB4⟩
        obtain ⟨ys4, rfl⟩ := hB4.lst
        refine ⟨_, rfl, ?_⟩
        refine p_k ⟨_, rfl, w_var rfl ⟨_, _, at_, rfl, rfl, ixN_ok hlt, .mk ?_⟩⟩
        refine s_nil ⟨rfl, _, _, rfl, ?_, hB4.mono (by omega)⟩
        exact ((hFs.mono (Nat.le_refl _) (by omega : j ≤ j + 3) (Nat.le_refl _)).set2 hat2 hFv).mono (Nat.le_refl _) (Nat.le_refl _) (by omega)
      refine ifF (by rw [decide_eq_false c3]; exact Bool.false_ne_true) ?_
      have hcat : ∀ lo hi lo' hi', Fines 1000 (j + 3) (2 * n + 30) (cutD ds lo hi ++ cutD ds lo' hi') := fun lo hi lo' hi' => (Fines.append (hFs.sub (cut_sub ds lo hi)) (hFs.sub (cut_sub ds lo' hi')) (Nat.le_refl _)).mono (Nat.le_refl _) (by omega) (by omega)
      have hcl : ∀ lo hi lo' hi', (cutD ds lo hi).length + (cutD ds lo' hi').length ≤ 1000 := fun lo hi lo' hi' => by
        have h1 := (cut_sub ds lo hi).length_le
        have h2 := (cut_sub ds lo' hi').length_le
        omega
      refine s_seq (s_if (t_p1c rfl eq_int ?_))
      by_cases e3 : way = 3
      · refine ifT (by rw [e3]; rfl) (s_seq (s_set (w_pvv ?_)))
        refine w_sl (w_as rfl (w_bno (w_bat (w_as rfl ⟨_, rfl, _, ⟨.lst (cutD ds none (some (at_ : Int))), true⟩, rfl, rfl, ?_⟩))))
        refine w_sl (w_as rfl (w_bat (w_av (w_p1c rfl rfl ⟨_, rfl, w_bno ⟨_, ⟨.lst (cutD ds (some ((at_ : Int) + 1)) none), true⟩, rfl, rfl, ?_⟩⟩))))
        refine ⟨_, add_lst (hcl _ _ _ _), _, rfl, ?_⟩
        exact s_nil (s_nil ⟨rfl, _, _, rfl, hcat _ _ _ _, hB3.mono (by omega)⟩)
      refine ifF (by simpa using (by omega : ¬ ((way : Int) = 3))) ?_
      refine s_seq (s_if (t_p1c rfl eq_int ?_))
      by_cases e4 : way = 4
      · refine ifT (by rw [e4]; rfl) (s_seq (s_set (w_pvv ?_)))
        refine w_sl (w_as rfl (w_bno (w_bat (w_av (w_p1c rfl rfl ⟨_, rfl, _, ⟨.lst (cutD ds none (some ((at_ : Int) + 1))), true⟩, rfl, rfl, ?_⟩)))))
        refine w_sl (w_as rfl (w_bat (w_as rfl ⟨_, rfl, w_bno ⟨_, ⟨.lst (cutD ds (some (at_ : Int)) none), true⟩, rfl, rfl, ?_⟩⟩)))
        refine ⟨_, add_lst (hcl _ _ _ _), _, rfl, ?_⟩
        exact s_nil (s_nil (s_nil ⟨rfl, _, _, rfl, hcat _ _ _ _, hB3.mono (by omega)⟩))
      refine ifF (by simpa using (by omega : ¬ ((way : Int) = 4))) ?_
      refine s_seq (s_if (t_p1c rfl eq_int ?_))
      by_cases e5 : way = 5
      · refine ifT (by rw [e5]; rfl) (s_seq (s_set (w_p1 rfl rfl ⟨_, rfl, ?_⟩)))
        exact s_nil (s_nil (s_nil (s_nil ⟨rfl, _, _, rfl, (hFs.perm (List.reverse_perm ds)).mono (Nat.le_refl _) (by omega) (by omega), hB3.mono (by omega)⟩)))
      refine ifF (by simpa using (by omega : ¬ ((way : Int) = 5))) ?_
      exact s_nil (s_nil (s_nil (s_nil ⟨rfl, _, _, rfl, hFs.mono (Nat.le_refl _) (by omega) (by omega), hB3.mono (by omega)⟩)))
    · rintro f s ⟨rfl, es, ys, rfl, hFe, hBe⟩
      refine s_seq (s_ret (w_if (t_p1c rfl eq_int ?_)))
      by_cases c6 : way = 6
      · exact ifT (by rw [c6]; rfl) (w_varO rfl ⟨[_], rfl, _, rfl, rfl, .lst hFe, hBe⟩)
      · exact ifF (by simpa using (by omega : ¬ ((way : Int) = 6))) (w_p1 rfl (pTuple_ok rfl) ⟨[_], rfl, _, rfl, rfl, .tup hFe, hBe⟩)
theorem bent_spec : ∀ l, BentP l
  | 0 => bent_step fun j e => by cases e
  | l + 1 => bent_step fun j e => by cases e; exact bent_spec l
end L26
set_option autoImplicit false
set_option Elab.async false
set_option linter.all false
set_option maxRecDepth 100000
set_option pp.maxSteps 500
set_option pp.deepTerms false
namespace L26
open PySem L2 Wt
/-! ### the law, k26 -/
def Sto (s : Sl) : Prop := Free s ∨ ∃ y, s = .ow y
theorem ne_str (s : Str) : pNe [.str s, .str s] = some ⟨.bl false, false⟩ := by
  have e : eqv (.str s) (.str s) = true := by show (s == s) = true; exact beq_self_eq_true s
  show (if (scalD (.str s) (.str s) || (shp (.str s) && shp (.str s))) = true then some (⟨.bl (!eqv (.str s) (.str s)), false⟩ : RV) else none) = _
  rw [e]; rfl
theorem same_b (t : Bool) : G_l_same 4 [.bl t, .bl t] = .ok (.bl true) false [] := by cases t <;> rfl
theorem same_bb (t : Bool) : G_l_same 4 [.lst [.bl t, .bl t], .lst [.bl t, .bl t]] = .ok (.bl true) false [] := by cases t <;> rfl
theorem app_all2 {α : Type} {p : α → Prop} {xs ys : List α} (h : ∀ y ∈ xs, p y) (hx : ∀ y ∈ ys, p y) : ∀ y ∈ xs ++ ys, p y := fun y hy => (List.mem_append.mp hy).elim (h y) (hx y)
/-- a thing that is looked at -/
def Th (x : D) : Prop := Fine 1000 11 816 x
theorem repr_any {x : D} (h : Th x) : ∃ s, pReprX [x] = some ⟨.str s, false⟩ := by
  have h0 : Fine 1000 11 816 x := h
  obtain ⟨h1, h2⟩ := finB_show (B := 1000) (by decide) _ h0.fi
  have h5 : (toP x).shown.length ≤ sizeLine := PyData.shown_fits_bulk (B := 13) (by decide) (by decide) h2 (Nat.le_trans h0.bk (by omega))
  have key : (itemsOf x).isSome = true → pRepr [x] = some ⟨.str (toP x).shown, false⟩ := fun q => by
    refine if_pos ?_
    rw [q, finB_plain _ h0.fi, h1, decide_eq_true (Nat.le_trans h0.dp (by omega) : (toP x).depth ≤ 60), decide_eq_true h5]; rfl
  cases x with
  | non => exact ⟨_, rfl⟩
  | bl b => exact ⟨_, rfl⟩
  | int i => exact ⟨_, if_pos (of_decide_eq_true (int_short (B := 1000) (by decide) (of_decide_eq_true h0.fi)).1)⟩
  | str z => exact ⟨_, if_pos h5⟩
  | tup ds => exact ⟨_, key rfl⟩
  | lst ds => exact ⟨_, key rfl⟩
  | _ => cases h0.fi
def T9 : List D := [.non, .tup [], .str "all", .tup [.str "all"], .tup [.str "all", .tup []], .tup [.str "any", .tup []], .lst [.str "all", .tup []], .tup [.str "not", .tup [.str "any", .tup []]], .tup [.str "all", .lst []]]
theorem T9_th : ∀ x ∈ T9, Th x := by
  have h : T9.all (fun x => finB 1000 x && decide ((toP x).depth ≤ 11) && decide ((toP x).bulk ≤ 816)) = true := by decide +kernel
  intro x hx
  have := List.all_eq_true.mp h x hx
  rw [Bool.and_eq_true, Bool.and_eq_true] at this
  exact ⟨this.1.1, of_decide_eq_true this.1.2, of_decide_eq_true this.2⟩
theorem sum_th {z : Str} {i j : Int} (hz : okS 8 z) (hi : i.natAbs ≤ 1000) (hj : j.natAbs ≤ 1000) : Th (.tup [.str "sum", .tup [.str z], .int i, .int j]) := by
  have f1 : Fine 1000 1 9 (.tup [.str z]) := .tup (.cons (a := 8) (b := 0) (word_fine hz) .nil (by omega))
  have f2 : Fines 1000 1 16 [.str "sum", .tup [.str z], .int i, .int j] :=
    .cons (a := 3) (b := 12) (word_fine ⟨by decide, by decide⟩) (.cons (b := 2) f1 (.cons (a := 0) (b := 1) (int_fin hi) (.cons (a := 0) (b := 0) (int_fin hj) .nil (by omega)) (by omega)) (by omega)) (by omega)
  exact (Fine.tup f2).mono (Nat.le_refl _) (by omega) (by omega)
theorem sum0_th : Th (.tup [.str "sum", .tup [], .int 0, .int 1]) := ⟨rfl, by decide, by decide⟩
theorem two_strs {ns : List Str} (h : ns.length = 2) : ∃ a b, ns = [a, b] := by
  match ns, h with
  | [a, b], _ => exact ⟨a, b, rfl⟩
theorem stores2f {σ : Stt} {a b : D} {i j : Nat} {s t : Sl} (h1 : σ[i]? = some s) (f1 : Free s) (h2 : σ[j]? = some t) (f2 : Free t) (hn : i ≠ j) : storesS [i, j] [⟨a, false⟩, ⟨b, false⟩] σ = some ((σ.set i (.fz a)).set j (.fz b)) := by
  have e1 := store_any (d := a) h1 (.inl f1)
  have e2 := store_any (i := j) (d := b) (s := t) (σ := σ.set i (.fz a)) (by rw [List.getElem?_set_ne hn]; exact h2) (.inl f2)
  simp only [storesS, e1, e2]
  try rfl
set_option maxHeartbeats 16000000 in
theorem right_spec {b0 : Nat} {d : D} (hB : Bx b0 d) (hb0 : b0 < 10000) : ∃ x, G_l_right [d] = .ok (.bl true) false [x] ∧ Bx (b0 + 5000) x := by
  have go : Wo (G_l_right [d]) fun v fr refs => v = .bl true ∧ fr = false ∧ ∃ x, refs = [x] ∧ Bx (b0 + 5000) x := by
    obtain ⟨xs, rfl⟩ := hB.lst
    refine w_def (σ := [.ln (.lst xs), .no, .no, .no, .no, .no, .no, .no, .no, .no, .no, .no]) rfl ?_
    unfold F_l_right
    refine s_seq (s_set (w_call (w_s rfl (w_v (w_c (w_nil ⟨rfl, _, rfl, (names2_spec hB (by omega)).mono ?_⟩))))))
    rintro _ _ _ ⟨ns, d', rfl, rfl, rfl, hnl, _, hno, hB1⟩
    obtain ⟨x1, rfl⟩ := hB1.lst
    obtain ⟨n0, n1, rfl⟩ := two_strs hnl
    refine ⟨_, rfl, _, rfl, ?_⟩
    refine s_seq (s_par (w_rcons (w_call (w_s rfl (w_v (w_p1c (r := ⟨.str n0, false⟩) rfl rfl (w_v (w_c (w_v (w_c (w_v (w_c (w_nil ⟨rfl, _, rfl, (works_spec (mb := 3) (mp := 4) (tp := 9) (by omega) (by omega) (by omega) (by omega) (by omega) (by omega) (hno n0 (by simp)) hB1 (by omega)).mono ?_⟩)))))))))))))
    rintro _ _ _ ⟨bs, ps, d1, d2, ses, d', rfl, rfl, rfl, hbn, hbl, _, hbo, hpn, hpl, _, hpo, _, _, _, _, hB2⟩
    obtain ⟨x2, rfl⟩ := hB2.lst
    refine ⟨_, rfl, w_rcons (w_call (w_s rfl (w_v (w_p1c (r := ⟨.str n1, false⟩) rfl rfl (w_v (w_c (w_v (w_c (w_v (w_c (w_nil ⟨rfl, _, rfl, (works_spec (mb := 2) (mp := 2) (tp := 4) (by omega) (by omega) (by omega) (by omega) (by omega) (by omega) (hno n1 (by simp)) hB2 (by omega)).mono ?_⟩)))))))))))⟩
    rintro _ _ _ ⟨bs2, ps2, e1, e2, ses2, d', rfl, rfl, rfl, hbn2, hbl2, _, hbo2, hpn2, hpl2, _, hpo2, _, _, _, _, hB3⟩
    obtain ⟨x3, rfl⟩ := hB3.lst
    refine ⟨_, rfl, w_rnil ⟨_, rfl, ?_⟩⟩
    obtain ⟨c0, br, rfl⟩ : ∃ c0 br, bs = c0 :: br := by
      cases bs with
      | nil => exact absurd rfl hbn
      | cons c0 br => exact ⟨c0, br, rfl⟩
    have hc0 : okS 8 c0.nm := (hbo c0 (by simp)).1
    have hcl := claim_spec (x0 := .str n0) (w5 := [.tup d1, .tup d2, .tup (ses.map Se.d)]) hbn hbl hbo hpn hpl hpo 3 (by omega)
    have hcl2 := claim_spec (x0 := .str n1) (w5 := [.tup e1, .tup e2, .tup (ses2.map Se.d)]) hbn2 hbl2 hbo2 hpn2 hpl2 hpo2 2 (by omega)
    have hp1 : ∀ x, Th x → G_c_is_claim 26 [workD (.str n0) (c0 :: br) ps [.tup d1, .tup d2, .tup (ses.map Se.d)], x] = .ok (.bl (clm ((c0 :: br).map Bo.nm) ps 13 x)) false [] := fun x hx => is_claim_eq (by omega) (by omega) 13 26 11 816 x hx (by omega) (by omega) (by omega)
    have hl1 : ∀ x, Th x → G_l_is_claim 14 [workD (.str n0) (c0 :: br) ps [.tup d1, .tup d2, .tup (ses.map Se.d)], x] = .ok (.bl (clm ((c0 :: br).map Bo.nm) ps 13 x)) false [] := fun x hx => l_claim_eq (by omega) (by omega) hpo 13 14 11 816 x hx (by omega) (by omega) (by omega) (by omega)
    have hp2 : ∀ x, Th x → G_c_is_claim 26 [workD (.str n1) bs2 ps2 [.tup e1, .tup e2, .tup (ses2.map Se.d)], x] = .ok (.bl (clm (bs2.map Bo.nm) ps2 13 x)) false [] := fun x hx => is_claim_eq (by omega) (by omega) 13 26 11 816 x hx (by omega) (by omega) (by omega)
    have hl2 : ∀ x, Th x → G_l_is_claim 14 [workD (.str n1) bs2 ps2 [.tup e1, .tup e2, .tup (ses2.map Se.d)], x] = .ok (.bl (clm (bs2.map Bo.nm) ps2 13 x)) false [] := fun x hx => l_claim_eq (by omega) (by omega) hpo2 13 14 11 816 x hx (by omega) (by omega) (by omega) (by omega)
    have ixB : pIx [workD (.str n0) (c0 :: br) ps [.tup d1, .tup d2, .tup (ses.map Se.d)], .int 1] = some ⟨.tup ((c0 :: br).map Bo.d), false⟩ := ixW1
    generalize workD (.str n0) (c0 :: br) ps [.tup d1, .tup d2, .tup (ses.map Se.d)] = Wd at hcl hp1 hl1 ixB ⊢
    generalize workD (.str n1) bs2 ps2 [.tup e1, .tup e2, .tup (ses2.map Se.d)] = Vd at hcl2 hp2 hl2 ⊢
    generalize clm ((c0 :: br).map Bo.nm) ps 13 = f1 at hp1 hl1
    generalize clm (bs2.map Bo.nm) ps2 13 = f2 at hp2 hl2
    refine s_seq (s_set (w_lst ?_))
    refine w_dcons (w_c (w_dcons (w_tup (w_dnil ⟨ln_ rfl, ?_⟩))))
    refine w_dcons (w_c (w_dcons (w_tup (w_dcons (w_c (w_dnil ⟨ln_ rfl, ?_⟩))))))
    refine w_dcons (w_tup (w_dcons (w_c (w_dcons (w_tup (w_dnil ⟨ln_ rfl, w_dnil ⟨ln_ rfl, ?_⟩⟩))))))
    refine w_dcons (w_tup (w_dcons (w_c (w_dcons (w_tup (w_dnil ⟨ln_ rfl, w_dnil ⟨ln_ rfl, ?_⟩⟩))))))
    refine w_dcons (w_lst (w_dcons (w_c (w_dcons (w_tup (w_dnil ⟨ln_ rfl, w_dnil ⟨ln_ rfl, ?_⟩⟩))))))
    refine w_dcons (w_tup (w_dcons (w_c (w_dcons (w_tup (w_dcons (w_c (w_dcons (w_tup (w_dnil ⟨ln_ rfl, w_dnil ⟨ln_ rfl, w_dnil ⟨ln_ rfl, ?_⟩⟩⟩))))))))))
    refine w_dcons (w_tup (w_dcons (w_c (w_dcons (w_lst (w_dnil ⟨ln_ rfl, w_dnil ⟨ln_ rfl, ?_⟩⟩))))))
    refine w_dnil ⟨ln_ rfl, ?_⟩
    refine ⟨[.ln (.lst x3), .ow (.lst [.str n0, .str n1]), .ow (.lst T9), .no, .no, .fz Wd, .fz Vd, .no, .no, .no, .no, .no], rfl, ?_⟩
    refine s_seq (s_set (w_psv rfl (w_lst ?_)))
    refine w_dcons (w_tup (w_dcons (w_c (w_dcons (w_tup (w_dnil ⟨ln_ rfl, w_dcons (w_c (w_dcons (w_c (w_dnil ⟨ln_ rfl, ?_⟩))))⟩))))))
    refine w_dcons (w_tup (w_dcons (w_c (w_dcons (w_tup (w_dcons (w_pvc (w_pvc (w_p1c rfl ixB ⟨_, pIx_ok rfl (atI_nat (j := 0) rfl), ⟨.str c0.nm, false⟩, rfl, w_dnil ⟨ln_ rfl, w_dcons (w_c (w_dcons (w_c (w_dnil ⟨ln_ rfl, ?_⟩))))⟩⟩)))))))))
    refine w_dcons (w_tup (w_dcons (w_c (w_dcons (w_tup (w_dcons (w_pvc (w_pvc (w_p1c rfl ixB ⟨_, pIx_ok rfl (atI_nat (j := 0) rfl), ⟨.str c0.nm, false⟩, rfl, w_dnil ⟨ln_ rfl, w_dcons (w_c (w_dcons (w_c (w_dnil ⟨ln_ rfl, ?_⟩))))⟩⟩)))))))))
    refine w_dnil ⟨ln_ rfl, _, _, rfl, add_lst (Nat.le_of_ble_eq_true rfl), _, rfl, ?_⟩
    have hT0 : ∀ x ∈ T9 ++ [D.tup [.str "sum", .tup [], .int 0, .int 1], .tup [.str "sum", .tup [.str c0.nm], .int 0, .int 40], .tup [.str "sum", .tup [.str c0.nm], .int 0, .int 41]], Th x := app_all2 T9_th fun x hx => by
      simp only [List.mem_cons, List.not_mem_nil, or_false] at hx
      rcases hx with rfl | rfl | rfl
      · exact sum0_th
      · exact sum_th hc0 (by decide) (by decide)
      · exact sum_th hc0 (by decide) (by decide)
    have hL0 : (T9 ++ [D.tup [.str "sum", .tup [], .int 0, .int 1], .tup [.str "sum", .tup [.str c0.nm], .int 0, .int 40], .tup [.str "sum", .tup [.str c0.nm], .int 0, .int 41]]).length = 12 := rfl
    generalize T9 ++ [D.tup [.str "sum", .tup [], .int 0, .int 1], .tup [.str "sum", .tup [.str c0.nm], .int 0, .int 40], .tup [.str "sum", .tup [.str c0.nm], .int 0, .int 41]] = T0 at hT0 hL0
    have hB3b : Bx (b0 + 420) (.lst x3) := hB3.mono (by omega)
    refine s_seq (s_for (i_rng (w_c ⟨_, rfl, rfl, fun i s => ∃ (ys things : List D) (t3 t7 : Sl), s = [.ln (.lst ys), .ow (.lst [.str n0, .str n1]), .ow (.lst things), t3, .no, .fz Wd, .fz Vd, t7, .no, .no, .no, .no] ∧ (∀ x ∈ things, Th x) ∧ things.length ≤ 12 + 10 * i ∧ Free t3 ∧ Free t7 ∧ Bx (b0 + 420 + 600 * i) (.lst ys), ⟨_, _, _, _, rfl, hT0, by omega, .no, .no, hB3b⟩, ?_, ?_⟩)))
    · rintro i d _ hd ⟨ys, things, t3, t7, rfl, hth, htl, f3, f7, hBi⟩
      obtain ⟨hi, rfl⟩ := rangeD_get hd
      have hi2 : i < 6 := hi
      refine ⟨_, put_free rfl f3, ?_⟩
      refine s_seq (s_set (w_call (w_s rfl (w_v (w_var rfl (w_v (w_c (w_nil ⟨rfl, _, rfl, (hcl 6 _ _ hBi (by omega) (by omega)).mono ?_⟩))))))))
      rintro cl _ _ ⟨d', rfl, rfl, hFc, hB4⟩
      obtain ⟨y4, rfl⟩ := hB4.lst
      have hFc' : Fine 1000 8 393 cl := hFc.mono (Nat.le_refl _) (by omega) (by omega)
      refine ⟨_, rfl, _, store_free rfl f7, ?_⟩
      refine s_seq (s_set (w_pvv (w_psv rfl (w_lst (w_dcons (w_var rfl (w_dcons (w_call (w_s rfl (w_v (w_var rfl (w_v (w_c (w_nil ⟨rfl, _, rfl, (hcl2 6 _ _ hB4 (by omega) (by omega)).mono ?_⟩))))))))))))))
      rintro c2 _ _ ⟨d', rfl, rfl, hFc2, hB5⟩
      obtain ⟨y5, rfl⟩ := hB5.lst
      have hFc2' : Th c2 := hFc2.mono (Nat.le_refl _) (by omega) (by omega)
      have hB5b : Bx (b0 + 420 + 600 * i + 240) (.lst y5) := hB5.mono (by omega)
      refine ⟨_, rfl, w_dnil ⟨ln_ rfl, _, _, rfl, add_lst (by show things.length + 2 ≤ 1000; omega), ?_⟩⟩
      refine w_lc (i_rng (w_c ⟨_, rfl, rfl, rfl, fun k acc s => acc.length = k ∧ (∀ x ∈ acc, Th x) ∧ ∃ (ys : List D) (a : Sl), s = [.ln (.lst ys), .ow (.lst [.str n0, .str n1]), .ow (.lst things), .fz (.int i), .no, .fz Wd, .fz Vd, .fz cl, .no, .no, .no, a] ∧ Free a ∧ Bx (b0 + 420 + 600 * i + 240 + 35 * k) (.lst ys), ⟨rfl, fun x hx => (by cases hx), _, _, rfl, .no, hB5b⟩, ?_, ?_⟩))
      · rintro k d acc _ hd ⟨hal, hac, ys, a, rfl, fa, hB6⟩
        obtain ⟨hk, rfl⟩ := rangeD_get hd
        have hk2 : k < 8 := hk
        refine ⟨_, rfl, .mk (ifT rfl ?_)⟩
        refine w_call (w_s rfl (w_v (w_var rfl (w_v (w_c (w_nil ⟨rfl, _, rfl, (bent_spec 6 9 8 393 _ _ cl hFc' (by omega) hB6 (by omega) (by omega)).mono ?_⟩))))))
        rintro bt _ _ ⟨d', rfl, rfl, hFb, hB7⟩
        obtain ⟨y7, rfl⟩ := hB7.lst
        refine ⟨_, rfl, lenLt (by omega), by rw [List.length_append, hal]; rfl, app_all2 hac fun x hx => ?_, _, _, rfl, .fz, hB7.mono (by omega)⟩
        rw [List.mem_singleton.mp hx]
        exact hFb.mono (Nat.le_refl _) (by omega) (by omega)
      · rintro acc _ ⟨hal, hac, ys, a, rfl, fa, hB6⟩
        have hal8 : acc.length = 8 := hal
        have hB6b : Bx (b0 + 420 + 600 * i + 240 + 35 * 8) (.lst ys) := hB6
        refine ⟨_, add_lst (by rw [List.length_append]; show things.length + 2 + acc.length ≤ 1000; omega), _, rfl, ?_⟩
        refine s_nil ⟨_, _, _, _, rfl, app_all2 (app_all2 hth fun x hx => ?_) hac, ?_, .fz, .fz, hB6b.mono (by omega)⟩
        · simp only [List.mem_cons, List.not_mem_nil, or_false] at hx
          rcases hx with rfl | rfl
          · exact hFc'.mono (Nat.le_refl _) (by omega) (by omega)
          · exact hFc2'
        · rw [List.length_append, List.length_append, hal8]
          show things.length + 2 + 8 ≤ 12 + 10 * (i + 1)
          omega
    · rintro _ ⟨ys, things, t3, t7, rfl, hth, htl, f3, f7, hBi⟩
      have hBe : Bx (b0 + 420 + 600 * 6) (.lst ys) := hBi
      refine s_seq (s_for (i_ow rfl ⟨fun k s => ∃ (t4 t8 t9 t10 : Sl), s = [.ln (.lst ys), .ow (.lst [.str n0, .str n1]), .lk (.lst things) false, t3, t4, .fz Wd, .fz Vd, t7, t8, t9, t10, .no] ∧ Free t4 ∧ Free t8 ∧ Free t9 ∧ Free t10, ⟨_, _, _, _, rfl, .no, .no, .no, .no⟩, ?_, ?_⟩))
      · rintro k x _ hx ⟨t4, t8, t9, t10, rfl, f4, f8, f9, f10⟩
        have hxt := hth x (List.mem_of_getElem? hx)
        obtain ⟨rp, hrp⟩ := repr_any hxt
        refine ⟨_, put_free rfl f4, ?_⟩
        refine s_seq (s_par (w_rcons (w_p1 rfl hrp (w_rcons (w_c2 rfl rfl (hl1 x hxt) (w_rnil ⟨_, stores2f rfl f9 rfl f10 (by decide), ?_⟩))))))
        refine s_seq (s_set (w_lst (w_dcons (w_c2 rfl rfl (hp1 x hxt) (w_dcons (w_c2 rfl rfl (hp1 x hxt) (w_dnil ⟨ln_ rfl, _, store_anyO rfl (.inl f8), ?_⟩)))))))
        refine s_seq (s_if (t_or (t_not (t_val (w_cFF (w_varO rfl (w_lst (w_dcons (w_var rfl (w_dcons (w_var rfl (w_dnil ⟨ln_ rfl, _, _, same_bb _, _, rfl, ?_⟩))))))))))))
        refine ifF Bool.false_ne_true (t_bl (w_pvs (w_p1 rfl hrp ⟨_, _, rfl, ne_str _, _, rfl, ?_⟩)))
        refine ifF Bool.false_ne_true (s_nil ?_)
        refine s_seq (s_if (t_not (t_val (w_cFF (w_c2 rfl rfl (hp2 x hxt) (w_c2 rfl rfl (hl2 x hxt) ⟨_, _, same_b _, _, rfl, ?_⟩))))))
        refine ifF Bool.false_ne_true (s_nil (s_nil ?_))
        exact ⟨_, _, _, _, rfl, .fz, .fz, .fz, .fz⟩
      · rintro _ ⟨t4, t8, t9, t10, rfl, f4, f8, f9, f10⟩
        refine s_seq (s_ret (w_c ?_))
        exact ⟨[_], rfl, rfl, rfl, _, rfl, hBe.mono (by omega)⟩
  obtain ⟨v, fr, refs, e, rfl, rfl, x, rfl, hx⟩ := go.eq
  exact ⟨x, e, hx⟩
set_option maxHeartbeats 2000000 in
theorem math (ns : List Int) (hn : ns.length ≤ 63) : G_c_law [.lst (ns.map .int)] = .ok (.bl true) false [] := by
  refine Wo.to ?_
  refine w_def (σ := [.fz (.lst (ns.map .int)), .no, .no]) rfl ?_
  unfold F_c_law
  refine s_seq (s_set (w_call (w_v (w_var rfl (w_v (w_c (w_nil ⟨rfl, _, rfl, (folded_spec ns hn).mono ?_⟩)))))))
  rintro _ fr _ ⟨cs, rfl, rfl, hc0, hc3⟩
  have hst : ∃ t1, storeS 1 ⟨.lst (cs.map .int), fr⟩ [.fz (.lst (ns.map .int)), .no, .no] = some [.fz (.lst (ns.map .int)), t1, .no] ∧ (t1 = .fz (.lst (cs.map .int)) ∨ t1 = .ow (.lst (cs.map .int))) := by
    cases fr
    · exact ⟨_, rfl, .inl rfl⟩
    · exact ⟨_, rfl, .inr rfl⟩
  obtain ⟨t1, hst, ht1⟩ := hst
  refine ⟨_, rfl, _, hst, ?_⟩
  have hd1 : (([.fz (.lst (ns.map .int)), t1, .no] : Stt)[1]?).bind Sl.d? = some (.lst (cs.map .int)) := by rcases ht1 with rfl | rfl <;> rfl
  refine s_seq (s_ret (w_pv (w_lc (i_rng (w_p1 (r := ⟨.int ((cs.map D.int).length : Nat), false⟩) hd1 rfl ⟨_, rfl, small_of (by omega) (by rw [List.length_map]; omega), rfl, fun i acc s => acc = List.replicate i (.bl true) ∧ ∃ (t1 a : Sl), s = [.fz (.lst (ns.map .int)), t1, a] ∧ (t1 = .fz (.lst (cs.map .int)) ∨ t1 = .ow (.lst (cs.map .int))) ∧ Free a, ⟨rfl, _, _, rfl, ht1, .no⟩, ?_, ?_⟩)))))
  · rintro i d acc s hd ⟨rfl, t1, a, rfl, ht1, fa⟩
    obtain ⟨hi, rfl⟩ := rangeD_get hd
    rw [List.length_map] at hi
    refine ⟨_, rfl, .mk (ifT rfl ?_)⟩
    have hv : W (fVar 1 [.fz (.lst (ns.map .int)), t1, .fz (.int i)]) fun r s => r = ⟨.lst (cs.map .int), false⟩ ∧ s = [.fz (.lst (ns.map .int)), .fz (.lst (cs.map .int)), .fz (.int i)] := by
      rcases ht1 with rfl | rfl
      · exact w_var rfl ⟨rfl, rfl⟩
      · exact w_varO rfl ⟨rfl, rfl⟩
    refine w_callT (w_call (w_v (hv.mono ?_)))
    rintro _ _ ⟨rfl, rfl⟩
    obtain ⟨bx, hbx, hB⟩ := box_spec (ds := cs.map .int) (k := i) ⟨cs[i], by rw [List.getElem?_map, List.getElem?_eq_getElem hi]; rfl⟩ (by omega)
    obtain ⟨x, hx, _⟩ := right_spec hB (by omega)
    refine w_v (w_var rfl (w_nil ⟨rfl, _, rfl, ?_⟩))
    rw [hbx]
    refine .mk ⟨_, rfl, rfl, _, x, hx, lenLt (by rw [List.length_replicate]; omega), by rw [List.replicate_succ'], _, _, rfl, .inl rfl, .fz⟩
  · rintro acc s ⟨rfl, t1, a, rfl, ht1, fa⟩
    rw [rangeD_lenN, List.length_map]
    have e : List.replicate cs.length (D.bl true) = cs.map fun _ => D.bl true := by rw [List.map_const']
    rw [e]
    refine ⟨_, all_ok (fun _ => true) cs, [], rfl, ?_, rfl, rfl⟩
    rw [List.all_eq_true.mpr fun _ _ => rfl]
end L26
theorem PySem.Challenge.cw_worktwin_k26_claims_or_not_holds : PySem.Challenge.rw_worktwin_k26_claims_or_not.Holds := by
  exact L26.holds L26.math
